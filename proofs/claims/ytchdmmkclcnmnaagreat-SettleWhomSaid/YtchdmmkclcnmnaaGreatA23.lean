/- Lemmas of this claim, each with its conditions. -/
import Derived.Test.YtchdmmkclcnmnaaGreatA22
import Derived.Test.YtchdmmkclcnmnaaGreatA21
import Derived.Test.YtchdmmkclcnmnaaGreatA19
import Derived.Test.YtchdmmkclcnmnaaGreatA15
set_option linter.all false
open List (length_cons length_nil length_append flatMap_cons all_eq_true flatMap_nil foldl_nil take_zero)
open Bool renaming and_eq_true -> aa, not_eq_true' -> a7
open Nat renaming reduceEqDiff -> ac, zero_mul -> af, pos_of_ne_zero -> aS, lt_succ_self -> a4, le_refl -> a5, not_lt_zero -> a6
open And renaming intro -> ad
open List renaming mem_of_getElem? -> aj, take_length -> al, append_assoc -> ap, sizeOf_lt_of_mem -> ax, drop_zero -> ay, append_nil -> a3, foldl_append -> a8, all_append -> a9
open Int renaming le_refl -> aR
namespace Go.Proofs
open Go.Ev
set_option maxRecDepth 100000
def q9(a0 a1 d:Int):Int:=eO (qo a0 d) (qo a1 d)
def q8(a0 a1 d:Int):Int:=dX (qo a0 d) (qo a1 d)
set_option maxHeartbeats 1000000 in
def wQ(a0 a1 lo hi:Int)(h:lo<=hi):SC Tryz.prog 276 [ab lo,ab hi,.ptr 0 0,.ptr 1 0] [.cells [ab a0,ab a1],.cells [cN]] []
 (λr S'=>r=.bE []/\S'=[.cells [ab a0,ab a1],.cells [.buf 4 2 2 none],.gone,.gone,.cells [ab (q9 a0 a1 lo),ab (q8 a0 a1 lo),ab (q9 a0 a1 hi),ab (q8 a0 a1 hi)]]):=by
 refine Sm 40 Tryz.func276 ?_;refine aC (show decide (lo<=hi)=true by simpa using h) ?_
 (repeat refine ar.seq ?_)
 refine ar.yes rfl ?_;refine zV ?_
 (repeat refine ar.seq ?_)
 refine ar.block (ar.loop (λm st=>
  (m=2/\st=⟨[(2,.ptr 0 0),(3,.ptr 1 0),(15,.buf 2 2 1 (some 2)),(16,ab 2),(17,ab 0),(1000000,.ptr 0 0),(1000001,.ptr 1 0)],40,[.cells [ab a0,ab a1],.cells [cN],.cells [ab lo,ab hi]],[]⟩)\/
  (m=1/\st=⟨[(2,.ptr 0 0),(3,.ptr 1 0),(15,.buf 2 2 1 (some 2)),(16,ab 2),(17,ab 1),(1000000,.ptr 0 0),(1000001,.ptr 1 0)],40,[.cells [ab a0,ab a1],.cells [.buf 4 1 2 none],.cells [ab lo,ab hi],.gone,.cells [ab (q9 a0 a1 lo),ab (q8 a0 a1 lo)]],[]⟩)\/
  (m=0/\st=⟨[(2,.ptr 0 0),(3,.ptr 1 0),(15,.buf 2 2 1 (some 2)),(16,ab 2),(17,ab 2),(1000000,.ptr 0 0),(1000001,.ptr 1 0)],40,[.cells [ab a0,ab a1],.cells [.buf 4 2 2 none],.cells [ab lo,ab hi],.gone,.cells [ab (q9 a0 a1 lo),ab (q8 a0 a1 lo),ab (q9 a0 a1 hi),ab (q8 a0 a1 hi)]],[]⟩)) 2 zH (.inl ⟨rfl,rfl⟩) (by rintro m st (⟨_,rfl⟩ | ⟨_,rfl⟩ | ⟨_,rfl⟩)<;>rfl) ?_)
 rintro m st (⟨rfl,rfl⟩ | ⟨rfl,rfl⟩ | ⟨rfl,rfl⟩)
 ·refine xd ?_;refine zB ?_;refine zV ?_;refine zs ?_;refine oz [0,1,0,7,0,16,0,127,255,511] ?_;refine zD ?_;refine SD.k (by rfl) rfl rfl (by rfl) rfl rfl zc (iq a0 lo) (zw) rfl ?_;refine zD ?_;refine SD.k (by rfl) rfl rfl (by rfl) rfl rfl zc (iq a1 lo) (zw) rfl ?_;refine zD ?_;refine zM ?_;refine aC (n2 @iG @fw) ?_;refine zV ?_;exact⟨1,_,by omega,(bL (n2 @q9.eq_1 @q8.eq_1)),.inr (.inl ⟨rfl,rfl⟩)⟩
 ·refine xd ?_;refine zB ?_;refine zV ?_;refine zs ?_;refine oz [0,1,0,7,0,16,0,127,255,511] ?_;refine zD ?_;refine SD.k (by rfl) rfl rfl (by rfl) rfl rfl zc (iq a0 hi) (zw) rfl ?_;refine zD ?_;refine SD.k (by rfl) rfl rfl (by rfl) rfl rfl zc (iq a1 hi) (zw) rfl ?_;refine zD ?_;refine zM ?_;refine aC (n2 @iG @fw) ?_;refine zV ?_;exact⟨0,_,by omega,(bL (n2 @q9.eq_1 @q8.eq_1)),.inr (.inr ⟨rfl,rfl⟩)⟩
 ·refine H2 ?_;refine ar.fg (st':=⟨[(1000000,.ptr 0 0),(1000001,.ptr 1 0)],40,[.cells [ab a0,ab a1],.cells [.buf 4 2 2 none],.gone,.gone,.cells [ab (q9 a0 a1 lo),ab (q8 a0 a1 lo),ab (q9 a0 a1 hi),ab (q8 a0 a1 hi)]],[]⟩) zH ?_;refine ar.exit ?_;simp only[fV,dS,cE,cq,if_true];exact zP []
def G8(a0 a1 lo hi:Int)(h:¬lo<=hi):SC Tryz.prog 276 [ab lo,ab hi,.ptr 0 0,.ptr 1 0] [.cells [ab a0,ab a1],.cells [cN]] []
 (λr S'=>r=.bE []/\S'=[.cells [ab a0,ab a1],.cells [cN]]):=by
 refine Sm 40 Tryz.func276 ?_;refine aC (show decide (lo<=hi)=false by simpa using h) ?_
 (repeat refine ar.seq ?_)
 refine ar.no rfl ?_;refine ar.skip ?_
 (try simp only[fV,dS,cE,cq])
 exact zP []
def qR(a0 a1 lo hi:Int)(n:Nat)(cs:List SV)(h:¬lo<=hi):SC Tryz.prog 276 [ab lo,ab hi,.ptr 0 0,.ptr 1 0] [.cells [ab a0,ab a1],.cells [.buf 2 n 2 none],.cells cs] []
 (λr S'=>r=.bE []/\S'=[.cells [ab a0,ab a1],.cells [.buf 2 n 2 none],.cells cs]):=by
 refine S4 40 Tryz.func276 ?_;refine aC (show decide (lo<=hi)=false by simpa using h) ?_
 (repeat refine ar.seq ?_)
 refine ar.no rfl ?_;refine ar.skip ?_
 (try simp only[fV,dS,cE,cq])
 exact zP []
def cZ(p:Int×Int):List SV:=[ab p.1,ab p.2]
def rb(p:Int×Int):(cZ p).length=2:=rfl
def mw(p:Int×Int):cr (cZ p)=true:=rfl
set_option maxHeartbeats 1000000 in
def wP(a0 a1 lo hi:Int)(rows:List (Int×Int))(hlen:rows.length<=1000)(h:lo<=hi):SC Tryz.prog 276 [ab lo,ab hi,.ptr 0 0,.ptr 1 0] [.cells [ab a0,ab a1],.cells [.buf 2 rows.length 2 none],.cells (rows.flatMap cZ)] [2]
 (λr S'=>r=.bE []/\S'=[.cells [ab a0,ab a1],.cells [.buf 2 (rows.length+1+1) 2 none],.cells ((rows++[(q9 a0 a1 lo,q8 a0 a1 lo)]++[(q9 a0 a1 hi,q8 a0 a1 hi)]).flatMap cZ)]):=by
 refine S4 40 Tryz.func276 ?_;have step:∀(l:List (Int×Int)) (x y:Int),((l.flatMap cZ).take (l.length*2)++[ab x,ab y]).map (bf 2)=(l++[(x,y)]).flatMap cZ:=λl x y=>eh rb mw 2 l (x,y);have hcl:∀l:List (Int×Int),(l.flatMap cZ).length=l.length*2:=aJ rb;have hkc:∀(o:Nat) (l:List (Int×Int)),(l.flatMap cZ).map (bf o)=l.flatMap cZ:=λo l=>aZ mw o l;refine aC (show decide (lo<=hi)=true by simpa using h) ?_
 (repeat refine ar.seq ?_)
 refine ar.yes rfl ?_;refine aC hkc ?_
 (repeat refine ar.seq ?_)
 refine ar.block (ar.loop (λm st=>∃q:List (Int×Int),
  (m=2/\q=rows/\st=⟨[(2,.ptr 0 0),(3,.ptr 1 0),(15,.buf 3 2 1 (some 2)),(16,ab 2),(17,ab 0),(1000000,.ptr 0 0),(1000001,.ptr 1 0)],40,[.cells [ab a0,ab a1],.cells [.buf 2 q.length 2 none],.cells (q.flatMap cZ),.cells [ab lo,ab hi]],[]⟩)\/
  (m=1/\q=rows++[(q9 a0 a1 lo,q8 a0 a1 lo)]/\st=⟨[(2,.ptr 0 0),(3,.ptr 1 0),(15,.buf 3 2 1 (some 2)),(16,ab 2),(17,ab 1),(1000000,.ptr 0 0),(1000001,.ptr 1 0)],40,[.cells [ab a0,ab a1],.cells [.buf 2 q.length 2 none],.cells (q.flatMap cZ),.cells [ab lo,ab hi]],[]⟩)\/
  (m=0/\q=rows++[(q9 a0 a1 lo,q8 a0 a1 lo)]++[(q9 a0 a1 hi,q8 a0 a1 hi)]/\st=⟨[(2,.ptr 0 0),(3,.ptr 1 0),(15,.buf 3 2 1 (some 2)),(16,ab 2),(17,ab 2),(1000000,.ptr 0 0),(1000001,.ptr 1 0)],40,[.cells [ab a0,ab a1],.cells [.buf 2 q.length 2 none],.cells (q.flatMap cZ),.cells [ab lo,ab hi]],[]⟩)) 2 zH ⟨rows,.inl ⟨rfl,rfl,rfl⟩⟩ (by rintro m st ⟨q,⟨_,_,rfl⟩ | ⟨_,_,rfl⟩ | ⟨_,_,rfl⟩⟩<;>rfl) ?_)
 rintro m st ⟨q,⟨rfl,hq,rfl⟩ | ⟨rfl,hq,rfl⟩ | ⟨rfl,hq,rfl⟩⟩
 ·have hql:q.length<=1000000:=by rw[hq];omega
  refine xd ?_;refine zB ?_;refine zV ?_;refine zs ?_;refine oz [0,1,0,7,0,16,0,127,255,511] ?_;refine zD ?_;refine SD.k (by rfl) rfl rfl (by rfl) rfl rfl zc (iq a0 lo) (zw) rfl ?_;refine zD ?_;refine SD.k (by rfl) rfl rfl (by rfl) rfl rfl zc (iq a1 lo) (zw) rfl ?_;refine zD ?_;refine zM ?_;refine aC (n7 @iG @fw hkc hcl step hql @a5) ?_;refine zV ?_;refine⟨1,_,by omega,(bL (n6 @q9.eq_1 @q8.eq_1 hq @length_append.{0} @length_cons.{0} @length_nil.{0})),q++[(q9 a0 a1 lo,q8 a0 a1 lo)],.inr (.inl ⟨rfl,by rw[hq],rfl⟩)⟩
 ·have hql:q.length<=1000000:=by rw[hq,length_append];simp only[length_cons,length_nil];omega
  refine xd ?_;refine zB ?_;refine zV ?_;refine zs ?_;refine oz [0,1,0,7,0,16,0,127,255,511] ?_;refine zD ?_;refine SD.k (by rfl) rfl rfl (by rfl) rfl rfl zc (iq a0 hi) (zw) rfl ?_;refine zD ?_;refine SD.k (by rfl) rfl rfl (by rfl) rfl rfl zc (iq a1 hi) (zw) rfl ?_;refine zD ?_;refine zM ?_;refine aC (n7 @iG @fw hkc hcl step hql @a5) ?_;refine zV ?_;refine⟨0,_,by omega,(bL (n6 @q9.eq_1 @q8.eq_1 hq @length_append.{0} @length_cons.{0} @length_nil.{0})),q++[(q9 a0 a1 hi,q8 a0 a1 hi)],.inr (.inr ⟨rfl,by rw[hq],rfl⟩)⟩
 ·refine H2 ?_;rw[show q.length=rows.length+1+1 by rw[hq];simp];refine ar.fg (st':=⟨[(1000000,.ptr 0 0),(1000001,.ptr 1 0)],40,[.cells [ab a0,ab a1],.cells [.buf 2 (rows.length+1+1) 2 none],.cells (q.flatMap cZ)],[]⟩) zH ?_;refine ar.exit ?_;simp only[fV,dS,cE,cq,if_true];exact zP [] (hq:=by (try simp only[dh,aW]);first | done | (rw[hq];first | exact⟨rfl,rfl⟩ | exact⟨trivial,rfl⟩ | exact⟨rfl,trivial⟩ | exact⟨trivial,trivial⟩))
def c8(a0 a1 lo hi:Int):List (Int×Int):=if lo<=hi then [(q9 a0 a1 lo,q8 a0 a1 lo)]++[(q9 a0 a1 hi,q8 a0 a1 hi)] else []
def lW(a0 a1 b0 b1:Int):List (Int×Int):=(if b0<=0/\0<=b1 then [(0,0)] else [])++c8 a0 a1 (dX b0 1) b1++c8 a0 a1 b0 (eO b1 (-1))
def jd(x y:Int×Int):Int×Int:=l8 x.1 x.2 y.1 y.2
def jK(a0 a1 b0 b1:Int):Int×Int:=(lW a0 a1 b0 b1).foldl jd ((lW a0 a1 b0 b1).headD (0,0))
def vn{α:Type}{f:α->α->α}{l:List α}{i:Nat}{x a:α}(h:l[i]?=some x):(l.take (i+1)).foldl f a=f ((l.take i).foldl f a) x:=by
 rw[List.take_add_one,h,Option.toList_some,a8];rfl
set_option maxHeartbeats 2000000 in
def G9(a0 a1 b0 b1:Int)(hb:b0<=b1):PC Tryz.prog 271 [lq a0 a1,lq b0 b1] (·=oy (jK a0 a1 b0 b1)):=by
 refine pB 51 Tryz.func271 ?_;have hkc:∀(o:Nat) (l:List (Int×Int)),(l.flatMap cZ).map (bf o)=l.flatMap cZ:=λo l=>aZ mw o l;have hrc:∀(g:Nat->Nat) (l:List (Int×Int)),kh g (l.flatMap cZ)=l.flatMap cZ:=λg l=>aY (aB mw l);have hbc:∀(B:Nat) (l:List (Int×Int)),fq B (l.flatMap cZ)=true:=λB l=>bC (aB mw l);have hcl:∀l:List (Int×Int),(l.flatMap cZ).length=l.length*2:=aJ rb;refine aC @lq.eq_1 ?_;refine zV ?_;by_cases hz:b0<=0/\0<=b1
 ·refine aC (n2 (show decide (b0<=0)=true by simpa using hz.1) (show decide (0<=b1)=true by simpa using hz.2)) ?_;refine cL ?_;refine zV ?_
  have hm1:dX b0 1=1:=by unfold dX;split<;>omega
  have d1:lW a0 a1 b0 b1=([(0,0)]++c8 a0 a1 1 b1)++c8 a0 a1 b0 (eO b1 (-1)):=by rw[lW,ul hz,hm1]
  (repeat refine ar.seq ?_)
  refine ar.mono (Q:=λe st=>e=.normal/\Fg st ⟨[(3,.ptr 1 0),(4,.ptr 2 0),(5,.ptr 3 0),(6,.fn 276 [] [.ptr 0 0,.ptr 3 0])],51,[.cells [ab a0,ab a1],.cells [ab b0,ab b1],.cells [ab 0,ab 0],.cells [.buf 5 ([(0,0)]++c8 a0 a1 1 b1).length 2 none],.gone,.cells (([(0,0)]++c8 a0 a1 1 b1).flatMap cZ)],[]⟩) ?_ ?_
  ·by_cases h1:(1:Int)<=b1
   ·refine gG (n2 @fw hm1) ?_;have hd:=wP a0 a1 1 b1 [(0,0)] (by decide) h1;rw[show[((0:Int),(0:Int))].flatMap cZ=[ab 0,ab 0] from rfl,show[((0:Int),(0:Int))].length=1 from rfl] at hd;refine zS [0,3,5] (n3 hrc hbc hkc) hd ?_;refine zR ?_;refine⟨rfl,(Fg.less (by (simp only[bP,bg,dr,↓reduceIte,ac,c8,ul h1,length_append,length_cons,length_nil,ap])<;>(repeat' apply ad)<;>first | rfl | trivial) (by (simp only[bP,bg,or_true,true_or,c8,ul h1,length_append,length_cons,length_nil,ap])<;>(repeat' apply ad)<;>first | exact .inr rfl | exact .inl rfl | trivial))⟩
   ·refine gG (n2 @fw hm1) ?_;have hd:=qR a0 a1 1 b1 1 [ab 0,ab 0] h1;refine zS [0,3,5] (n3 hrc hbc hkc) hd ?_;refine zR ?_;refine⟨rfl,(Fg.less (by (simp only[bP,bg,dr,↓reduceIte,ac,c8,un h1,a3,length_cons,length_nil,flatMap_cons,flatMap_nil,cZ])<;>(repeat' apply ad)<;>first | rfl | trivial) (by (simp only[bP,bg,or_true,true_or,c8,un h1,a3,length_cons,length_nil,flatMap_cons,flatMap_nil,cZ])<;>(repeat' apply ad)<;>first | exact .inr rfl | exact .inl rfl | trivial))⟩
  rintro e st ⟨rfl,hfg⟩;refine ar.fg hfg ?_;clear hfg
  (try change ar _ _ _ _ _)
  have hq1:([(0,0)]++c8 a0 a1 1 b1).length<=1000:=by
   unfold c8;split<;>simp
  (repeat refine ar.seq ?_)
  refine ar.mono (Q:=λe st=>e=.normal/\Fg st ⟨[(3,.ptr 1 0),(4,.ptr 2 0),(5,.ptr 3 0),(6,.fn 276 [] [.ptr 0 0,.ptr 3 0])],51,[.cells [ab a0,ab a1],.cells [ab b0,ab b1],.cells [ab 0,ab 0],.cells [.buf 5 (([(0,0)]++c8 a0 a1 1 b1)++c8 a0 a1 b0 (eO b1 (-1))).length 2 none],.gone,.cells ((([(0,0)]++c8 a0 a1 1 b1)++c8 a0 a1 b0 (eO b1 (-1))).flatMap cZ)],[]⟩) ?_ ?_
  ·generalize ([(0,0)]++c8 a0 a1 1 b1)=q1 at hq1;by_cases h2:b0<=eO b1 (-1)
   ·refine gG @iG ?_;have hd:=wP a0 a1 b0 (eO b1 (-1)) q1 hq1 h2;refine zS [0,3,5] (n3 hrc hbc hkc) hd ?_;refine zR ?_;refine⟨rfl,(Fg.less (by (simp only[bP,bg,dr,↓reduceIte,ac,c8,ul h2,length_append,length_cons,length_nil,ap])<;>(repeat' apply ad)<;>first | rfl | trivial) (by (simp only[bP,bg,or_true,true_or,c8,ul h2,length_append,length_cons,length_nil,ap])<;>(repeat' apply ad)<;>first | exact .inr rfl | exact .inl rfl | trivial))⟩
   ·refine gG @iG ?_;have hd:=qR a0 a1 b0 (eO b1 (-1)) q1.length (q1.flatMap cZ) h2;refine zS [0,3,5] (n3 hrc hbc hkc) hd ?_;refine zR ?_;refine⟨rfl,(Fg.less (by (simp only[bP,bg,dr,↓reduceIte,ac,c8,un h2,a3])<;>(repeat' apply ad)<;>first | rfl | trivial) (by (simp only[bP,bg,or_true,true_or,c8,un h2,a3])<;>(repeat' apply ad)<;>first | exact .inr rfl | exact .inl rfl | trivial))⟩
  rintro e st ⟨rfl,hfg⟩;refine ar.fg hfg ?_;clear hfg
  (try change ar _ _ _ _ _)
  obtain⟨rows,hrows⟩:∃rows,rows=(([(0,0)]++c8 a0 a1 1 b1)++c8 a0 a1 b0 (eO b1 (-1))):=⟨_,rfl⟩
  have hne:rows≠[]:=by rw[hrows];simp
  obtain⟨x0,hr0⟩:∃x0,rows[0]?=some x0:=by
   cases h:rows with
   | nil=>exact t8 h hne
   | cons x r=>exact⟨x,rfl⟩
  have h0r:0<rows.length:=bD hr0
  have hlen:rows.length<=1000000:=by rw[hrows];(unfold c8;split<;>split<;>simp)
  have hD:jK a0 a1 b0 b1=rows.foldl jd x0:=by rw[jK,d1,<-hrows,show rows.headD (0,0)=x0 by cases rows with | nil=>exact t8 rfl hne | cons x r=>simpa using hr0]
  have ht2:(rows.flatMap cZ).take 2=[ab x0.1,ab x0.2]:=by
   have:=aG (e:=2) (enc:=cZ) (λ_=>rfl) hr0
   rwa [af,ay] at this
  rw[<-hrows];clear hrows;refine aC (n7 (show di (.int .i64 0)=some 0 from rfl) @af h0r hkc hcl ht2 (show 2<=rows.length*2 by omega)) ?_;refine zV ?_;refine zs ?_;refine zL rows (λk=>True) (λk=>[(4,.ptr 2 0),(7,.ptr 6 0),(40,.buf 5 rows.length 2 none),(41,ab rows.length),(42,ab k)]) (λk=>[.gone,.gone,.cells [ab 0,ab 0],.gone,.gone,.cells (rows.flatMap cZ),.cells [ab ((rows.take k).foldl jd x0).1,ab ((rows.take k).foldl jd x0).2]]) (bL (n3 @take_zero.{0} @foldl_nil.{0,0} hkc)) zp ?_;intro k hk hall;refine zT rows k ?_ ?_;rintro rfl;rotate_left;intro x hx hlt;rotate_left
  ·refine dZ ?_;rw[al];refine zV ?_;exact zo [.cell 4 54] (hq:=by rw[hD,oy,lq])
  have hst:=vn (f:=jd) (a:=x0) hx;obtain⟨p,q,hpq⟩:∃p q,(rows.take k).foldl jd x0=(p,q):=⟨_,_,rfl⟩;rw[hpq] at hst ⊢;refine eQ ?_;refine aC (n6 hlt (aG (e:=2) (enc:=cZ) (λ_=>rfl) hx) @cZ.eq_1 hcl (show k*2+2<=rows.length*2 by omega) hkc) ?_;refine zC ?_;refine zK (nP p q x.1 x.2) ?_;refine cM (n2 @oy.eq_1 @lq.eq_1) ?_;refine aC (zi hlt hlen) ?_;refine zX hlt (bL (n3 hst @jd.eq_1 hkc)) trivial
 by_cases hp:1<=b0
 ·refine aC (show decide (b0<=0)=false by simp;omega) ?_;refine iK ?_
  have hm1:dX b0 1=b0:=by unfold dX;split<;>omega
  have hm2:eO b1 (-1) = -1:=by unfold eO;split<;>omega
  have d1:lW a0 a1 b0 b1=[(q9 a0 a1 b0,q8 a0 a1 b0),(q9 a0 a1 b1,q8 a0 a1 b1)]:=by rw[lW,un hz,hm1,hm2,c8,ul hb,c8,un (by omega)];rfl
  refine gG (n2 @fw hm1) ?_;have hd:=wQ a0 a1 b0 b1 hb;refine zS [0,3] (n3 hrc hbc hkc) hd ?_;refine zR ?_;refine gG (n2 @iG hm2) ?_;have hd2:=qR a0 a1 b0 (-1) 2 [ab (q9 a0 a1 b0),ab (q8 a0 a1 b0),ab (q9 a0 a1 b1),ab (q8 a0 a1 b1)] (by omega);refine zS [0,3,6] (n3 hrc hbc hkc) hd2 ?_;refine zR ?_;obtain⟨rows,hrows⟩:∃rows,rows=[(q9 a0 a1 b0,q8 a0 a1 b0),(q9 a0 a1 b1,q8 a0 a1 b1)]:=⟨_,rfl⟩
  have hne:rows≠[]:=by rw[hrows];simp
  obtain⟨x0,hr0⟩:∃x0,rows[0]?=some x0:=by
   cases h:rows with
   | nil=>exact t8 h hne
   | cons x r=>exact⟨x,rfl⟩
  have h0r:0<rows.length:=bD hr0
  have hlen:rows.length<=1000000:=by rw[hrows];simp
  have hD:jK a0 a1 b0 b1=rows.foldl jd x0:=by rw[jK,d1,<-hrows,show rows.headD (0,0)=x0 by cases rows with | nil=>exact t8 rfl hne | cons x r=>simpa using hr0]
  have ht2:(rows.flatMap cZ).take 2=[ab x0.1,ab x0.2]:=by
   have:=aG (e:=2) (enc:=cZ) (λ_=>rfl) hr0
   rwa [af,ay] at this
  rw[show([ab (q9 a0 a1 b0),ab (q8 a0 a1 b0),ab (q9 a0 a1 b1),ab (q8 a0 a1 b1)]:List SV)=rows.flatMap cZ by rw[hrows];rfl,show(SV.buf 6 2 2 none)=.buf 6 rows.length 2 none by rw[hrows];rfl];clear hrows;refine aC (n7 (show di (.int .i64 0)=some 0 from rfl) @af h0r hkc hcl ht2 (show 2<=rows.length*2 by omega)) ?_;refine zV ?_;refine zs ?_;refine zL rows (λk=>True) (λk=>[(4,.ptr 2 0),(7,.ptr 7 0),(40,.buf 6 rows.length 2 none),(41,ab rows.length),(42,ab k)]) (λk=>[.gone,.gone,.cells [ab 0,ab 0],.gone,.gone,.gone,.cells (rows.flatMap cZ),.cells [ab ((rows.take k).foldl jd x0).1,ab ((rows.take k).foldl jd x0).2]]) (bL (n3 @take_zero.{0} @foldl_nil.{0,0} hkc)) zp ?_;intro k hk hall;refine zT rows k ?_ ?_;rintro rfl;rotate_left;intro x hx hlt;rotate_left
  ·refine dZ ?_;rw[al];refine zV ?_;exact zo [.cell 4 54] (hq:=by rw[hD,oy,lq])
  have hst:=vn (f:=jd) (a:=x0) hx;obtain⟨p,q,hpq⟩:∃p q,(rows.take k).foldl jd x0=(p,q):=⟨_,_,rfl⟩;rw[hpq] at hst ⊢;refine eQ ?_;refine aC (n6 hlt (aG (e:=2) (enc:=cZ) (λ_=>rfl) hx) @cZ.eq_1 hcl (show k*2+2<=rows.length*2 by omega) hkc) ?_;refine zC ?_;refine zK (nP p q x.1 x.2) ?_;refine cM (n2 @oy.eq_1 @lq.eq_1) ?_;refine aC (zi hlt hlen) ?_;refine zX hlt (bL (n3 hst @jd.eq_1 hkc)) trivial
 ·have hn:b1 <= -1:=by omega
  by_cases hq0:b0<=0;rotate_left
  ·omega
  refine aC (n2 (show decide (b0<=0)=true by simpa using hq0) (show decide (0<=b1)=false by simp;omega)) ?_;refine iK ?_
  have hm1:dX b0 1=1:=by unfold dX;split<;>omega
  have hm2:eO b1 (-1)=b1:=by unfold eO;split<;>omega
  have d1:lW a0 a1 b0 b1=[(q9 a0 a1 b0,q8 a0 a1 b0),(q9 a0 a1 b1,q8 a0 a1 b1)]:=by rw[lW,un hz,hm1,hm2,c8,un (by omega),c8,ul hb];rfl
  refine gG (n2 @fw hm1) ?_;have hd:=G8 a0 a1 1 b1 (by omega);refine zS [0,3] (n3 hrc hbc hkc) hd ?_;refine zR ?_;refine gG (n2 @iG hm2) ?_;have hd2:=wQ a0 a1 b0 b1 hb;refine zS [0,3] (n3 hrc hbc hkc) hd2 ?_;refine zR ?_;obtain⟨rows,hrows⟩:∃rows,rows=[(q9 a0 a1 b0,q8 a0 a1 b0),(q9 a0 a1 b1,q8 a0 a1 b1)]:=⟨_,rfl⟩
  have hne:rows≠[]:=by rw[hrows];simp
  obtain⟨x0,hr0⟩:∃x0,rows[0]?=some x0:=by
   cases h:rows with
   | nil=>exact t8 h hne
   | cons x r=>exact⟨x,rfl⟩
  have h0r:0<rows.length:=bD hr0
  have hlen:rows.length<=1000000:=by rw[hrows];simp
  have hD:jK a0 a1 b0 b1=rows.foldl jd x0:=by rw[jK,d1,<-hrows,show rows.headD (0,0)=x0 by cases rows with | nil=>exact t8 rfl hne | cons x r=>simpa using hr0]
  have ht2:(rows.flatMap cZ).take 2=[ab x0.1,ab x0.2]:=by
   have:=aG (e:=2) (enc:=cZ) (λ_=>rfl) hr0
   rwa [af,ay] at this
  rw[show([ab (q9 a0 a1 b0),ab (q8 a0 a1 b0),ab (q9 a0 a1 b1),ab (q8 a0 a1 b1)]:List SV)=rows.flatMap cZ by rw[hrows];rfl,show(SV.buf 6 2 2 none)=.buf 6 rows.length 2 none by rw[hrows];rfl];clear hrows;refine aC (n7 (show di (.int .i64 0)=some 0 from rfl) @af h0r hkc hcl ht2 (show 2<=rows.length*2 by omega)) ?_;refine zV ?_;refine zs ?_;refine zL rows (λk=>True) (λk=>[(4,.ptr 2 0),(7,.ptr 7 0),(40,.buf 6 rows.length 2 none),(41,ab rows.length),(42,ab k)]) (λk=>[.gone,.gone,.cells [ab 0,ab 0],.gone,.gone,.gone,.cells (rows.flatMap cZ),.cells [ab ((rows.take k).foldl jd x0).1,ab ((rows.take k).foldl jd x0).2]]) (bL (n3 @take_zero.{0} @foldl_nil.{0,0} hkc)) zp ?_;intro k hk hall;refine zT rows k ?_ ?_;rintro rfl;rotate_left;intro x hx hlt;rotate_left
  ·refine dZ ?_;rw[al];refine zV ?_;exact zo [.cell 4 54] (hq:=by rw[hD,oy,lq])
  have hst:=vn (f:=jd) (a:=x0) hx;obtain⟨p,q,hpq⟩:∃p q,(rows.take k).foldl jd x0=(p,q):=⟨_,_,rfl⟩;rw[hpq] at hst ⊢;refine eQ ?_;refine aC (n6 hlt (aG (e:=2) (enc:=cZ) (λ_=>rfl) hx) @cZ.eq_1 hcl (show k*2+2<=rows.length*2 by omega) hkc) ?_;refine zC ?_;refine zK (nP p q x.1 x.2) ?_;refine cM (n2 @oy.eq_1 @lq.eq_1) ?_;refine aC (zi hlt hlen) ?_;refine zX hlt (bL (n3 hst @jd.eq_1 hkc)) trivial
structure iW where
 u1:Int
 u2:Int
 u3:Int
 u4:Int
 u5:Int
 u6:Int
def dU(u:iW):List SV:=[ab u.u1,ab u.u2,ab u.u3,ab u.u4,ab u.u5,ab u.u6]
def nG(u:iW)(op:Int):Int×Int:=if op=2 then (u.u1,u.u2) else if op=3 then (u.u3,u.u4) else (u.u5,u.u6)
def applyN(op:Int)(a b:Int×Int):Int×Int:=
 if op=5 then fk j7 a.1 a.2 b.1 b.2 else if op=6 then fk DC a.1 a.2 b.1 b.2 else if op=7 then fk Ar a.1 a.2 b.1 b.2
 else if op=9 then (eO a.1 b.1,eO a.2 b.2) else if op=10 then (dX a.1 b.1,dX a.2 b.2) else jK a.1 a.2 b.1 b.2
def nw(a b c:Int×Int):Int×Int:=if tT a.1 a.2 0=2 then b else if tT a.1 a.2 0=0 then c else l8 b.1 b.2 c.1 c.2
def Ez(u:iW)(n:Int):PC Tryz.prog 268 [.ag (dU u),ab n] (·=oy (n,n)):=by
 refine pB 8 Tryz.func268 ?_;refine aC @dU.eq_1 ?_;refine zV ?_;exact zo [.cell 4 54]
def Es(u:iW)(op:Int):PC Tryz.prog 267 [.ag (dU u),ab op] (·=oy (nG u op)):=by
 refine pB 19 Tryz.func267 ?_;refine aC @dU.eq_1 ?_;refine zV ?_;refine zB ?_;cases h1:decide (op=2);rotate_left
 ·refine aC h1 ?_;refine cL ?_;exact zo [.cell 4 54] (hq:=by rw[nG,ul (ww h1)];rfl)
 refine aC h1 ?_;refine zN ?_;cases h2:decide (op=3);rotate_left
 ·refine aC h2 ?_;refine cL ?_;exact zo [.cell 4 54] (hq:=by rw[nG,un (wt h1),ul (ww h2)];rfl)
 refine aC h2 ?_;refine iK ?_;exact zo [.cell 4 54] (hq:=by rw[nG,un (wt h1),un (wt h2)];rfl)
def D8(u:iW)(a b c:Int×Int):PC Tryz.prog 266 [.ag (dU u),oy a,oy b,oy c] (·=oy (nw a b c)):=by
 refine pB 20 Tryz.func266 ?_;refine aC (n3 @dU.eq_1 @oy.eq_1 @lq.eq_1) ?_;refine zC ?_;refine zK (Hf a.1 a.2 0) ?_;refine zR ?_;refine zB ?_;cases h1:decide (tT a.1 a.2 0=2);rotate_left
 ·refine aC h1 ?_;refine cL ?_;exact zo [.cell 8 54] (hq:=by rw[nw,ul (ww h1)];rfl)
 refine aC h1 ?_;refine zN ?_;cases h2:decide (tT a.1 a.2 0=0);rotate_left
 ·refine aC h2 ?_;refine cL ?_;exact zo [.cell 8 54] (hq:=by rw[nw,un (wt h1),ul (ww h2)];rfl)
 refine aC h2 ?_;refine QS ?_;refine zK (nP b.1 b.2 c.1 c.2) ?_;refine cM (n2 @oy.eq_1 @lq.eq_1) ?_;exact zo [.cell 8 54] (hq:=by rw[nw,un (wt h1),un (wt h2)];rfl)
set_option maxHeartbeats 1000000 in
def G0(u:iW)(op:Int)(a b:Int×Int)(hb:b.1<=b.2):PC Tryz.prog 265 [.ag (dU u),ab op,oy a,oy b] (·=oy (applyN op a b)):=by
 refine pB 54 Tryz.func265 ?_;refine aC (n3 @dU.eq_1 @oy.eq_1 @lq.eq_1) ?_;refine zV ?_;refine zB ?_;cases h1:decide (op=5);rotate_left
 ·refine aC h1 ?_;refine zY ?_;refine zC ?_;refine zK (pO a.1 a.2 b.1 b.2) ?_;refine cM (n2 @oy.eq_1 @lq.eq_1) ?_;exact zo [.cell 8 54] (hq:=by rw[applyN,ul (ww h1)];rfl)
 have g1:=wt h1;refine aC h1 ?_;refine zN ?_;cases h2:decide (op=6);rotate_left
 ·refine aC h2 ?_;refine zY ?_;refine zC ?_;refine zK (Jt a.1 a.2 b.1 b.2) ?_;refine cM (n2 @oy.eq_1 @lq.eq_1) ?_;exact zo [.cell 8 54] (hq:=by rw[applyN,un g1,ul (ww h2)];rfl)
 have g2:=wt h2;refine aC h2 ?_;refine zN ?_;cases h3:decide (op=7);rotate_left
 ·refine aC h3 ?_;refine zY ?_;refine zC ?_;refine zK (Js a.1 a.2 b.1 b.2) ?_;refine cM (n2 @oy.eq_1 @lq.eq_1) ?_;exact zo [.cell 8 54] (hq:=by rw[applyN,un g1,un g2,ul (ww h3)];rfl)
 have g3:=wt h3;refine aC h3 ?_;refine zN ?_;cases h4:decide (op=9);rotate_left
 ·refine aC h4 ?_;refine zY ?_;refine aC @iG ?_;exact zo [.cell 8 54] (hq:=by rw[applyN,un g1,un g2,un g3,ul (ww h4)];rfl)
 have g4:=wt h4;refine aC h4 ?_;refine zN ?_;cases h5:decide (op=10);rotate_left
 ·refine aC h5 ?_;refine zY ?_;refine aC @fw ?_;exact zo [.cell 8 54] (hq:=by rw[applyN,un g1,un g2,un g3,un g4,ul (ww h5)];rfl)
 have g5:=wt h5;refine aC h5 ?_;refine QS ?_;refine zK (G9 a.1 a.2 b.1 b.2 hb) ?_;refine cM (n2 @oy.eq_1 @lq.eq_1) ?_;exact zo [.cell 8 54] (hq:=by rw[applyN,un g1,un g2,un g3,un g4,un g5];rfl)
inductive bB where
 | mk (op n:Int) (kids:List bB)
def bB.op:bB->Int
 | .mk op _ _=>op
mutual
def aE:bB->List SV
 | .mk op n kids=>[ab op,ab n,.sl kids.length 3 (qk kids)]
def qk:List bB->List SV
 | []=>[]
 | f::fs=>aE f++qk fs
end
def wq:∀l:List bB,qk l=l.flatMap aE
 | []=>by rw[qk];rfl
 | f::l=>by rw[qk,wq l,flatMap_cons]
def dD(op n:Int)(kids:List bB):aE (.mk op n kids)=[ab op,ab n,.sl kids.length 3 (kids.flatMap aE)]:=by rw[aE,wq]
def eD(f:bB):(aE f).length=3:=by
 obtain⟨op,n,kids⟩:=f;rw[dD];rfl
def aM(f:bB):cr (aE f)=true:=by
 obtain⟨op,n,kids⟩:=f;rw[dD];rfl
inductive gD:bB->Prop
 | mk {op n:Int} {kids:List bB}:kids.length<=1000000->(∀k∈kids,gD k)->gD (.mk op n kids)
mutual
def fO:bB->Int->Int
 | .mk _ _ kids,most=>ie kids most 1
def ie:List bB->Int->Int->Int
 | [],_,n=>n
 | k::ks,most,n=>if most<n then n else ie ks most (H8 n (fO k (Ao most n)))
end
set_option maxHeartbeats 1000000 in
def wX:∀(d:Nat) (f:bB),SizeOf.sizeOf f<d->gD f->∀most:Int,PC Tryz.prog 75 [.ag (aE f),ab most] (·=ab (fO f most))
 | 0,f,hd,_,_=>t8 hd (Nat.not_lt_zero _)
 | d+1,.mk op n kids,hd,hf,most=>by
  cases hf with
  | mk hlen hks=>
  have hkd:∀k∈kids,SizeOf.sizeOf k<d:=λk hk=>by
   have h1:=List.sizeOf_lt_of_mem hk
   have h2:SizeOf.sizeOf (bB.mk op n kids)=1+SizeOf.sizeOf op+SizeOf.sizeOf n+SizeOf.sizeOf kids:=by simp
   omega
  rw[dD,fO];refine pB 27 Tryz.func75 ?_;refine lC ?_;refine zV ?_;refine zs ?_;refine MX kids (λk (acc:Int)=>ie kids most 1=ie (kids.drop k) most acc) (λk acc=>[(1,ab most),(5,ab acc),(9,ak 3 kids aE),(10,ab kids.length),(11,ab k)]) (λk acc=>[]) (1) zH (by rfl) ?_;intro k acc hk hall;refine zT kids k ?_ ?_;rintro rfl;rotate_left;intro x hx hlt;rotate_left
  ·refine dZ ?_;refine zV ?_;exact zo [.tmp 4] (hq:=by rw[hall,List.drop_length,ie])
  rw[ft hx,ie] at hall;have hxm:=List.mem_of_getElem? hx;have ih:=wX d x (hkd x hxm) (hks x hxm);have hxl:((kids.flatMap aE).drop (k*3)).take 3=aE x:=aG (e:=3) (enc:=aE) eD hx;obtain⟨op',n',kids'⟩:=x;simp only[dD] at hxl ih;refine eQ ?_;refine aC (n2 hlt hxl) ?_;cases h1:decide (most<acc);rotate_left
  ·refine aC h1 ?_;refine zY ?_;refine ar.exit ?_;refine zV ?_;exact zo [.tmp 4] (hq:=by rw[hall,ul (ww h1)])
  refine aC h1 ?_;refine zN ?_;rw[un (wt h1)] at hall;refine gG @qc ?_;refine zK (ih (Ao most acc)) ?_;refine cM @yj ?_;refine aC (zi hlt hlen) ?_;refine H3 hlt (H8 acc (fO (.mk op' n' kids') (Ao most acc))) zH hall
def JF(f:bB)(hf:gD f)(most:Int):PC Tryz.prog 75 [.ag (aE f),ab most] (·=ab (fO f most)):=wX _ f (a4 _) hf most
def qY(op:Int):Nat:=if op=11 then 3 else if 5<=op then 2 else 0
mutual
def gk:bB->Bool
 | .mk op n kids=>(decide (1<=op)&&decide (op<=11))&&(decide (kids.length=qY op)&&(!(decide (n<0))&&(!(decide (9999999<n))&&!(decide (0<n)&&!(decide (op=1))))))&&ub kids
def ub:List bB->Bool
 | []=>true
 | k::ks=>gk k&&ub ks
end
def sK:∀l:List bB,ub l=l.all gk
 | []=>by rw[ub];rfl
 | a::l=>by rw[ub,sK l,List.all_cons]
set_option maxHeartbeats 1000000 in
def wY:∀(d:Nat) (f:bB),SizeOf.sizeOf f<d->gD f->PC Tryz.prog 76 [.ag (aE f)] (·=az (gk f))
 | 0,f,hd,_=>t8 hd (Nat.not_lt_zero _)
 | d+1,.mk op n kids,hd,hf=>by
  cases hf with
  | mk hlen hks=>
  have hkd:∀k∈kids,SizeOf.sizeOf k<d:=λk hk=>by
   have h1:=List.sizeOf_lt_of_mem hk
   have h2:SizeOf.sizeOf (bB.mk op n kids)=1+SizeOf.sizeOf op+SizeOf.sizeOf n+SizeOf.sizeOf kids:=by simp
   omega
  rw[dD,gk,sK];refine pB 59 Tryz.func76 ?_;refine lC ?_
  (repeat refine ar.seq ?_)
  cases h1:decide (op<1);rotate_left
  ·refine ar.block ?_;refine aC h1 ?_;refine cL ?_;exact zo [.tmp 2] (hq:=by rw[show decide (1<=op)=false by have:=ww h1;simp;omega];rfl)
  cases h2:decide (11<op);rotate_left
  ·refine ar.block ?_;refine aC (n2 h1 h2) ?_;refine cL ?_;exact zo [.tmp 2] (hq:=by rw[show decide (op<=11)=false by have:=ww h2;simp;omega,Bool.and_false];rfl)
  have g1:=wt h1;have g2:=wt h2;rw[show decide (1<=op)=true by simp;omega,show decide (op<=11)=true by simp;omega];refine ar.mono (Q:=λe st=>e=.normal/\Fg st ⟨[(1,.ptr 0 0),(3,cx (qY op))],59,[.cells [ab op,ab n,.sl kids.length 3 (kids.flatMap aE)]],[]⟩) ?_ ?_
  ·refine ar.block ?_;refine aC (n2 h1 h2) ?_;refine zN ?_;cases h3:decide (op=11);rotate_left
   ·refine aC h3 ?_;refine cL ?_;exact⟨rfl,(Fg.less (by (simp only[bP,bg,dr,↓reduceIte,Nat.reduceEqDiff,qY,ul (ww h3)])<;>(repeat' apply And.intro)<;>first | rfl | trivial) (by (simp only[bP,bg,or_true,true_or,qY,ul (ww h3)])<;>(repeat' apply And.intro)<;>first | exact .inr rfl | exact .inl rfl | trivial))⟩
   refine aC h3 ?_;refine zN ?_;cases h4:decide (5<=op);rotate_left
   ·refine aC h4 ?_;refine cL ?_;exact⟨rfl,(Fg.less (by (simp only[bP,bg,dr,↓reduceIte,Nat.reduceEqDiff,qY,un (wt h3),ul (ww h4)])<;>(repeat' apply And.intro)<;>first | rfl | trivial) (by (simp only[bP,bg,or_true,true_or,qY,un (wt h3),ul (ww h4)])<;>(repeat' apply And.intro)<;>first | exact .inr rfl | exact .inl rfl | trivial))⟩
   ·refine aC h4 ?_;refine zN ?_;exact⟨rfl,(Fg.less (by (simp only[bP,bg,dr,↓reduceIte,Nat.reduceEqDiff,qY,un (wt h3),un (wt h4)])<;>(repeat' apply And.intro)<;>first | rfl | trivial) (by (simp only[bP,bg,or_true,true_or,qY,un (wt h3),un (wt h4)])<;>(repeat' apply And.intro)<;>first | exact .inr rfl | exact .inl rfl | trivial))⟩
  rintro e st ⟨rfl,hfg⟩;refine ar.fg hfg ?_;clear hfg
  (try change ar _ _ _ _ _)
  generalize qY op=w;by_cases h3:kids.length=w;rotate_left
  ·rw[show decide (kids.length=w)=false by simpa using h3];refine aC (show decide ((kids.length:Int)=(w:Int))=false by simp;omega) ?_;refine cL ?_;exact zo [.tmp 2]
  rw[show decide (kids.length=w)=true by simpa using h3]
  have h3':decide ((kids.length:Int)=(w:Int))=true:=by simp;omega
  cases h4:decide (n<0);rotate_left
  ·refine aC (n2 h3' h4) ?_;refine cL ?_;exact zo [.tmp 2]
  cases h5:decide (9999999<n);rotate_left
  ·refine aC (n3 h3' h4 h5) ?_;refine cL ?_;exact zo [.tmp 2]
  by_cases h7:(decide (0<n)&&!(decide (op=1)))=true
  ·rw[Bool.and_eq_true,Bool.not_eq_true'] at h7;refine aC (n5 h3' h4 h5 @h7.1 @h7.2) ?_;refine cL ?_;exact zo [.tmp 2] (hq:=by rw[h7.1,h7.2];rfl)
  have h8:(decide (0<n)&&!(decide (op=1)))=false:=by simpa using h7
  rw[h8]
  (repeat refine ar.seq ?_)
  refine ar.mono (Q:=λe st=>e=.normal/\Fg st ⟨[(1,.ptr 0 0),(47,az false)],59,[.cells [ab op,ab n,.sl kids.length 3 (kids.flatMap aE)]],[]⟩) ?_ ?_
  ·cases h6:decide (0<n)
   ·refine aC (n4 h3' h4 h5 h6) ?_;exact⟨rfl,zH⟩
   ·rw[h6] at h8
    have h9:decide (op=1)=true:=by
     cases h:decide (op=1) with
     | true=>rfl
     | false=>rw[h] at h8;cases h8
    refine aC (n5 h3' h4 h5 h6 h9) ?_;exact⟨rfl,zH⟩
  rintro e st ⟨rfl,hfg⟩;refine ar.fg hfg ?_;clear hfg
  (try change ar _ _ _ _ _)
  refine iK ?_;refine zs ?_;refine zL kids (λk=>(kids.take k).all gk=true) (λk=>[(49,ak 3 kids aE),(50,ab kids.length),(51,ab k)]) (λk=>[]) zH zp ?_;intro k hk hall;refine zT kids k ?_ ?_;rintro rfl;rotate_left;intro x hx hlt;rotate_left
  ·refine dZ ?_;refine zV ?_;rw[List.take_length] at hall;exact zo [.tmp 2] (hq:=by rw[hall];rfl)
  have hxm:=List.mem_of_getElem? hx;have ih:=wY d x (hkd x hxm) (hks x hxm);have hxl:((kids.flatMap aE).drop (k*3)).take 3=aE x:=aG (e:=3) (enc:=aE) eD hx
  have hnext:gk x=true->(kids.take (k+1)).all gk=true:=λh=>by rw[br hx,List.all_append,hall];simp[h]
  have hbad:gk x=false->kids.all gk=false:=λh=>by rw[List.all_eq_false];exact⟨x,hxm,by rw[h];decide⟩
  obtain⟨op',n',kids'⟩:=x;simp only[dD] at hxl ih;refine eQ ?_;refine aC (n2 hlt hxl) ?_;refine zC ?_;refine zK ih ?_;cases h10:gk (.mk op' n' kids')
  ·refine zR ?_;refine cL ?_;exact zo [.tmp 2] (hq:=by rw[hbad h10];rfl)
  refine zR ?_;refine zN ?_;refine aC (zi hlt hlen) ?_;refine zX hlt zH (hnext h10)
def AQ(f:bB)(hf:gD f):PC Tryz.prog 76 [.ag (aE f)] (·=az (gk f)):=wY _ f (a4 _) hf
def dV(f:bB):Bool:=decide (fO f 60<=60)&&gk f
def qV(f:bB)(hf:gD f):PC Tryz.prog 38 [.ag (aE f)] (·=az (Proofs.dV f)):=by
 have hn:=JF f hf 60;have hr:=AQ f hf;refine pB 10 Tryz.func38 ?_;have hv:Proofs.dV f=(decide (fO f 60<=60)&&gk f):=rfl;generalize fO f 60=N at hn hv;generalize gk f=R at hr hv;obtain⟨op,n,kids⟩:=f;rw[dD] at hn hr ⊢;refine kD ?_;refine zK hn ?_;cases h1:decide (N<=60)
 ·refine cM h1 ?_;exact zo [.tmp 2] (hq:=by rw[hv,h1];rfl)
 refine QT h1 ?_;refine zK hr ?_;refine zR ?_;exact zo [.tmp 2] (hq:=by rw[hv,h1];rfl)
mutual
def mV(u:iW):bB->Int×Int
 | .mk op n kids=>
  if op=1 then (n,n) else if op<=4 then nG u op
  else match nN u kids with
   | a::b::l=>if op=11 then (match l with
    | c::_=>nw a b c
    | []=>(0,0)) else applyN op a b
   | _=>(0,0)
def nN(u:iW):List bB->List (Int×Int)
 | []=>[]
 | k::ks=>mV u k::nN u ks
end
def KA(p q r s:Int):eO (eO (eO p q) r) s<=dX (dX (dX p q) r) s:=by
 have h1:∀a b:Int,eO a b<=a:=λa b=>by unfold eO;split<;>omega
 have h2:∀a b:Int,a<=dX a b:=λa b=>by unfold dX;split<;>omega
 have:=h1 p q;have:=h1 (eO p q) r;have:=h1 (eO (eO p q) r) s;have:=h2 p q;have:=h2 (dX p q) r;have:=h2 (dX (dX p q) r) s;omega
def Da(f:Int->Int->Int)(a b c d:Int):(fk f a b c d).1<=(fk f a b c d).2:=by
 unfold fk;split
 ·exact KA _ _ _ _
 ·exact aR _
def join_le(a b c d:Int):(l8 a b c d).1<=(l8 a b c d).2:=by
 unfold l8;split
 ·exact KA _ _ _ _
 ·exact aR _
def P3(l:List (Int×Int))(x:Int×Int)(h:l≠[]):(l.foldl jd x).1<=(l.foldl jd x).2:=by
 rcases List.eq_nil_or_concat l with rfl | ⟨a,y,rfl⟩
 ·exact t8 rfl h
 ·rw[List.concat_eq_append,a8];exact join_le _ _ _ _
def LC(a0 a1 b0 b1:Int):(jK a0 a1 b0 b1).1<=(jK a0 a1 b0 b1).2:=by
 unfold jK;by_cases h:lW a0 a1 b0 b1=[]
 ·rw[h];exact aR _
 ·exact P3 _ _ h
def Ci{a b c d:Int}(h1:a<=b)(h2:c<=d):eO a c<=eO b d/\dX a c<=dX b d:=by
 unfold eO dX;constructor<;>split<;>split<;>omega
def Nk(op:Int){a b:Int×Int}(ha:a.1<=a.2)(hb:b.1<=b.2):(applyN op a b).1<=(applyN op a b).2:=by
 unfold applyN;split
 ·exact Da _ _ _ _ _
 split
 ·exact Da _ _ _ _ _
 split
 ·exact Da _ _ _ _ _
 split
 ·exact(Ci ha hb).1
 split
 ·exact(Ci ha hb).2
 ·exact LC _ _ _ _
def Lu{a b c:Int×Int}(hb:b.1<=b.2)(hc:c.1<=c.2):(nw a b c).1<=(nw a b c).2:=by
 unfold nw;split
 ·exact hb
 split
 ·exact hc
 ·exact join_le _ _ _ _
structure iW.ok (u:iW):Prop where
 a:u.u1<=u.u2
 b:u.u3<=u.u4
 c:u.u5<=u.u6
def L3{u:iW}(h:u.ok)(op:Int):(nG u op).1<=(nG u op).2:=by
 unfold nG;split
 ·exact h.a
 split
 ·exact h.b
 ·exact h.c
mutual
def K5{u:iW}(h:u.ok):∀f:bB,(mV u f).1<=(mV u f).2
 | .mk op n kids=>by
  have ih:=GQ h kids;rw[mV];split
  ·exact aR _
  split
  ·exact L3 h op
  ·split
   ·rename_i a b l hl;rw[hl] at ih;split
    ·split
     ·exact Lu (ih _ (by simp)) (ih _ (by simp))
     ·exact aR _
    ·exact Nk op (ih _ (by simp)) (ih _ (by simp))
   ·exact aR _
def GQ{u:iW}(h:u.ok):∀l:List bB,∀p∈nN u l,p.1<=p.2
 | [],p,hp=>by rw[nN] at hp;cases hp
 | k::ks,p,hp=>by
  rw[nN] at hp
  rcases List.mem_cons.1 hp with rfl | hp
  ·exact K5 h k
  ·exact GQ h ks p hp
end
def Cn(P:Program)(nm:String)(t:TypeId)(v:AV)(ys:List AV):Ev.cN P (.a (.fn (.method nm) [.iface t v] ys))=(jn P t nm).map λ_=>.a (.fn (.method nm) [.iface t v] ys):=rfl
def pG(u:iW):SV:=.iface 182 (.ag (dU u))
def Ew:jn Tryz.prog 182 "bogie/formula.number"=some 268:=by kernel_rfl
def Eu:jn Tryz.prog 182 "bogie/formula.letter"=some 267:=by kernel_rfl
def wW:jn Tryz.prog 182 "bogie/formula.apply"=some 265:=by kernel_rfl
def uE:jn Tryz.prog 182 "bogie/formula.choose"=some 266:=by kernel_rfl
set_option maxHeartbeats 2000000 in
def CO(u:iW)(hu:u.ok):∀(d:Nat) (f:bB),SizeOf.sizeOf f<d->gD f->gk f=true->PC Tryz.prog 97 [pG u,.ag (aE f)] (·=oy (mV u f))
 | 0,f,hd,_,_=>t8 hd (Nat.not_lt_zero _)
 | d+1,.mk op n kids,hd,hf,hr=>by
  cases hf with
  | mk hlen hks=>
  have hkd:∀k∈kids,SizeOf.sizeOf k<d:=λk hk=>by
   have h1:=List.sizeOf_lt_of_mem hk
   have h2:SizeOf.sizeOf (bB.mk op n kids)=1+SizeOf.sizeOf op+SizeOf.sizeOf n+SizeOf.sizeOf kids:=by simp
   omega
  rw[dD,mV];refine pB 67 Tryz.func97 ?_;refine aC (n2 @pG.eq_1 @dU.eq_1) ?_;refine zB ?_;cases h1:decide (op=1);rotate_left
  ·refine aC h1 ?_;refine zY ?_;rw[ul (ww h1)];refine zC ?_;refine zK (Ez u n) ?_ (hc:=J3 @Ew);refine cM (n2 @oy.eq_1 @lq.eq_1) ?_;exact zo [.cell 4 54]
  rw[un (wt h1)];refine aC h1 ?_;refine zN ?_;cases h2:decide (op<=4);rotate_left
  ·refine aC h2 ?_;refine zY ?_;rw[ul (ww h2)];refine zC ?_;refine zK (Es u op) ?_ (hc:=J3 @Eu);refine cM (n2 @oy.eq_1 @lq.eq_1) ?_;exact zo [.cell 4 54]
  rw[un (wt h2)];refine aC h2 ?_;refine zN ?_;rw[gk,Bool.and_eq_true,Bool.and_eq_true,Bool.and_eq_true,Bool.and_eq_true] at hr;obtain⟨⟨hr1,hr2,_⟩,hr3⟩:=hr;have hop1:=ww hr1.1;have hop2:=ww hr1.2;have hkl:=ww hr2;have h1':=wt h1;have h2':=wt h2;rw[sK] at hr3;have n0:di (.int .i64 0)=some 0:=rfl;have n1:di (.int .i64 1)=some 1:=rfl;have n2:di (.int .i64 2)=some 2:=rfl
  have hkid:∀{j:Nat} {x:bB},kids[j]?=some x->PC Tryz.prog 97 [pG u,.ag (aE x)] (·=oy (mV u x)):=λ{j x} hx=>by
   have hxm:=List.mem_of_getElem? hx;exact CO u hu d x (hkd x hxm) (hks x hxm) (List.all_eq_true.1 hr3 x hxm)
  have hat:∀{j:Nat} {x:bB},kids[j]?=some x->((kids.flatMap aE).drop (j*3)).take 3=aE x:=λhx=>aG (e:=3) (enc:=aE) eD hx;cases h3:decide (op=11)
  ·have h3':=wt h3
   have hw:kids.length=2:=by rw[hkl,qY,un h3',ul (by omega)]
   obtain⟨x0,x1,hk2⟩:∃x0 x1,kids=[x0,x1]:=by
    match kids,hw with
    | [a,b],_=>exact⟨a,b,rfl⟩
   have e0:kids[0]?=some x0:=by rw[hk2];rfl
   have e1:kids[1]?=some x1:=by rw[hk2];rfl
   have hrun:nN u kids=[mV u x0,mV u x1]:=by rw[hk2,nN,nN,nN]
   rw[hrun];simp only[un h3'];have hb:=K5 hu x1;have a0:=hat e0;have a1:=hat e1;have k0:=hkid e0;have k1:=hkid e1
   have t0:(kids.flatMap aE).take 3=aE x0:=by rwa [Nat.zero_mul,List.drop_zero] at a0
   rw[pG,dU] at k0 k1;generalize mV u x0=r0 at k0 ⊢;generalize mV u x1=r1 at k1 hb ⊢;obtain⟨o0,m0,s0⟩:=x0;obtain⟨o1,m1,s1⟩:=x1;rw[dD] at t0 a1 k0 k1
   have l0:0<kids.length:=by omega
   have l1:1<kids.length:=by omega
   refine aC h3 ?_;refine zN ?_;refine zs ?_;refine oz [0,0,2,0,0,16,48,112,248,0,0,1024,3072,7168,16376,1,32769,98305,262143,524287] ?_;refine ni (n3 n0 l0 t0) ?_;refine SD.k (by rfl) rfl rfl (by rfl) rfl rfl zc (k0) (zw) rfl ?_;refine ni (n3 n1 l1 a1) ?_;refine SD.k (by rfl) rfl rfl (by rfl) rfl rfl zc (k1) (zw) rfl ?_;refine ni (n3 @dA.eq_28 @Cn @wW) ?_;refine SD.k (by rfl) rfl rfl (by rfl) rfl rfl (J3 @wW) (G0 u op r0 r1 hb) (zw) rfl ?_;refine SD.e (by rfl) rfl (by rfl) rfl rfl (by rfl) zl ?_;refine zM ?_;exact zo [.cell 4 54]
  ·have h3':=ww h3
   have hw:kids.length=3:=by rw[hkl,qY,ul h3']
   obtain⟨x0,x1,x2,hk2⟩:∃x0 x1 x2,kids=[x0,x1,x2]:=by
    match kids,hw with
    | [a,b,c],_=>exact⟨a,b,c,rfl⟩
   have e0:kids[0]?=some x0:=by rw[hk2];rfl
   have e1:kids[1]?=some x1:=by rw[hk2];rfl
   have e2:kids[2]?=some x2:=by rw[hk2];rfl
   have hrun:nN u kids=[mV u x0,mV u x1,mV u x2]:=by rw[hk2,nN,nN,nN,nN]
   rw[hrun];simp only[ul h3'];have a0:=hat e0;have a1:=hat e1;have a2:=hat e2;have k0:=hkid e0;have k1:=hkid e1;have k2:=hkid e2
   have t0:(kids.flatMap aE).take 3=aE x0:=by rwa [Nat.zero_mul,List.drop_zero] at a0
   rw[pG,dU] at k0 k1 k2;generalize mV u x0=r0 at k0 ⊢;generalize mV u x1=r1 at k1 ⊢;generalize mV u x2=r2 at k2 ⊢;obtain⟨o0,m0,s0⟩:=x0;obtain⟨o1,m1,s1⟩:=x1;obtain⟨o2,m2,s2⟩:=x2;rw[dD] at t0 a1 a2 k0 k1 k2
   have l0:0<kids.length:=by omega
   have l1:1<kids.length:=by omega
   have l2:2<kids.length:=by omega
   refine aC h3 ?_;refine zY ?_;refine zs ?_;refine oz [0,0,0,4,12,28,62,0,0,256,768,1792,4094,0,0,16384,49152,114688,262142,1,524289,1572865,4194303,8388607] ?_;refine ni (n3 n0 l0 t0) ?_;refine SD.k (by rfl) rfl rfl (by rfl) rfl rfl zc (k0) (zw) rfl ?_;refine ni (n3 n1 l1 a1) ?_;refine SD.k (by rfl) rfl rfl (by rfl) rfl rfl zc (k1) (zw) rfl ?_;refine ni (n3 @n2 l2 a2) ?_;refine SD.k (by rfl) rfl rfl (by rfl) rfl rfl zc (k2) (zw) rfl ?_;refine ni (n3 @dA.eq_28 @Cn @uE) ?_;refine SD.k (by rfl) rfl rfl (by rfl) rfl rfl (J3 @uE) (D8 u r0 r1 r2) (zw) rfl ?_;refine SD.e (by rfl) rfl (by rfl) rfl rfl (by rfl) zl ?_;refine zM ?_;exact zo [.cell 4 54]
def Pm(u:iW)(hu:u.ok)(f:bB)(hf:gD f)(hr:gk f=true):PC Tryz.prog 97 [pG u,.ag (aE f)] (·=oy (mV u f)):=CO u hu _ f (a4 _) hf hr
def iW.LO(u:iW):Bool:=jQ u.u1 u.u2&&(jQ u.u3 u.u4&&jQ u.u5 u.u6)
def q7(f:bB)(u:iW):Int×Int:=if u.LO=true/\dV f=true then (dX 0 (mV u f).1,dX 0 (mV u f).2) else (0,0)
def Iz{a b:Int}(h:jQ a b=true):a<=b:=by
 unfold jQ at h;simp only[aa,a7,wp] at h;omega
def iW.P4{u:iW}(h:u.LO=true):u.ok:=by
 unfold iW.LO at h;simp only[aa] at h;exact⟨Iz h.1,Iz h.2.1,Iz h.2.2⟩
set_option maxHeartbeats 1000000 in
def G6(f:bB)(u:iW)(hf:gD f):PC Tryz.prog 45 [.ag (aE f),.ag (dU u)] (·=oy (q7 f u)):=by
 have hv:=qV f hf;have hr:=λh1 h2=>Pm u h1 f hf h2
 have hd:q7 f u=if u.LO=true/\Proofs.dV f=true then (dX 0 (mV u f).1,dX 0 (mV u f).2) else (0,0):=rfl
 have hvr:Proofs.dV f=true->gk f=true:=λh=>by unfold Proofs.dV at h;simp only[aa] at h;exact h.2
 generalize Proofs.dV f=V at hv hd hvr;generalize gk f=R at hr hvr;generalize mV u f=r at hr hd;obtain⟨op,n,kids⟩:=f;rw[dD] at hv hr ⊢;obtain⟨ivs,hivs⟩:∃l:List (Int×Int),l=[(u.u1,u.u2),(u.u3,u.u4),(u.u5,u.u6)]:=⟨_,rfl⟩
 have hgood:u.LO=ivs.all λp=>jQ p.1 p.2:=by rw[hivs];simp[iW.LO]
 have hkc:∀(o:Nat) (l:List (Int×Int)),(l.flatMap cZ).map (bf o)=l.flatMap cZ:=λo l=>aZ mw o l;have hcl:=aJ rb ivs
 have hlen:ivs.length<=1000:=by rw[hivs];simp
 refine pB 53 Tryz.func45 ?_;refine aC @dU.eq_1 ?_;refine zV ?_;refine zs ?_;refine zL ivs (λk=>(ivs.take k).all (λp=>jQ p.1 p.2)=true) (λk=>[(2,.ptr 0 0),(3,.ptr 1 0),(4,.ptr 2 0),(14,.buf 3 ivs.length 2 (some 3)),(15,ab ivs.length),(16,ab k)]) (λk=>[.cells [ab op,ab n,.sl kids.length 3 (kids.flatMap aE)],.cells (dU u),.cells [ab 0,ab 0],.cells (ivs.flatMap cZ)]) (bL (n9 @dU.eq_1 hivs @length_cons.{0} @length_nil.{0} @flatMap_cons.{0,0} @flatMap_nil.{0,0} @cZ.eq_1 @List.cons_append.{0} @List.nil_append.{0})) zp ?_;intro k hk hall;refine zT ivs k ?_ ?_;rintro rfl;rotate_left;intro x hx hlt;rotate_left
 ·refine dZ ?_;rw[al] at hall;rw[<-hgood] at hall;refine gG @dU.eq_1 ?_;refine zK hv ?_;cases hV:V
  ·refine zR ?_;refine cL ?_;exact zo [.cell 4 54] (hq:=by rw[hd,un (by rw[hV];simp)];rfl)
  refine zR ?_;refine zN ?_;have hrr:=hr (iW.P4 hall) (hvr hV);rw[pG,dU] at hrr;refine gG @dU.eq_1 ?_;refine zK hrr ?_;refine cM (n2 @oy.eq_1 @lq.eq_1) ?_;refine aC @fw ?_;exact zo [.cell 4 54] (hq:=by rw[hd,ul ⟨hall,hV⟩];rfl)
 have hnext:jQ x.1 x.2=true->(ivs.take (k+1)).all (λp=>jQ p.1 p.2)=true:=λh=>by rw[br hx,a9,hall];simp[h]
 have hbad:jQ x.1 x.2=false->q7 (.mk op n kids) u=(0,0):=λh=>by
  rw[hd,un];rintro⟨h2,_⟩;rw[hgood] at h2;have:=all_eq_true.1 h2 x (aj hx);rw[h] at this;cases this
 refine eQ ?_;refine aC (n7 hlt (aG (e:=2) (enc:=cZ) (λ_=>rfl) hx) @cZ.eq_1 @dU.eq_1 hcl hkc (show k*2+2<=ivs.length*2 by omega)) ?_;cases g1:decide (x.1<0);rotate_left
 ·refine aC g1 ?_;refine cL ?_;exact zo [.cell 4 54] (hq:=by rw[hbad (by rw[jQ,g1];rfl)];rfl)
 cases g2:decide (x.2<x.1);rotate_left
 ·refine aC (n2 g1 g2) ?_;refine cL ?_;exact zo [.cell 4 54] (hq:=by rw[hbad (by rw[jQ,g1,g2];rfl)];rfl)
 cases g3:decide (1000000<x.2);rotate_left
 ·refine aC (n3 g1 g2 g3) ?_;refine cL ?_;exact zo [.cell 4 54] (hq:=by rw[hbad (by rw[jQ,g1,g2,g3];rfl)];rfl)
 refine aC (n3 g1 g2 g3) ?_;refine zN ?_;refine aC (zi hlt (show ivs.length<=1000000 by omega)) ?_;refine zX hlt (bL (n2 hkc @dU.eq_1)) (hnext (by rw[jQ,g1,g2,g3];rfl))
def oJ{α:Type}{enc:α->List SV}(h:∀x,(enc x).all ec=true)(l:List α):(l.flatMap enc).all ec=true:=by
 rw[List.all_flatMap,all_eq_true];exact λx _=>h x
def bH(p:aH):cr (ah p)=true:=rfl
def bY(p:bO):cr (au p)=true:=rfl
def Kr(l:List bJ):(l.flatMap aF).all ec=true:=oJ (λ_=>rfl) l
def vH(l:List aH):(l.flatMap ah).all ec=true:=oJ (λ_=>rfl) l
def vM(l:List bO):(l.flatMap au).all ec=true:=oJ (λ_=>rfl) l
def xz:SC Tryz.prog 46 [ak 14 ([]:List aH) ah] [] [] (λr S'=>r=.e0 14/\S'=[]):=by
 refine K6 8 Tryz.func46 ?_;refine kD ?_;refine aI.Mh (by rfl) rfl rfl (by rfl) rfl rfl (by simp only[aw]) (by kernel_rfl) ?_;intro b _;refine zR ?_;cases b
 ·refine iK ?_;refine ar.fg (Fg.e0 2 14 (.inr ⟨0,rfl⟩)) ?_;refine ar.fg (st':=⟨[(2,.e0 14)],8,[],[]⟩) zH ?_;refine zE ?_;exact zP [.tmp 2]
 ·refine cL ?_;refine ar.fg (Fg.e0 2 14 (.inl rfl)) ?_;refine zE ?_;exact zP [.tmp 2]
def pU(l:List aH)(hlen:l.length<=1000000)(hne:l≠[]):SC Tryz.prog 46 [ak 14 l ah] [] [] (λr S'=>r=.buf 1 l.length 14 none/\S'=[.gone,.cells (l.flatMap ah)]):=by
 have h0:¬l.length=0:=λe=>hne (List.length_eq_zero_iff.1 e);refine K6 8 Tryz.func46 ?_;have hkc:=λo=>aZ (enc:=ah) bH o l;have hon:(l.flatMap ah).all ec=true:=vH l;refine kD ?_;refine aI.Mh (by rfl) rfl rfl (by rfl) rfl rfl (by simp only[aw]) (by kernel_rfl) ?_;intro b hb;cases b;rotate_left
 ·exact t8 (hb rfl) h0
 refine zR ?_;refine zN ?_;have hp0:0<l.length:=aS h0;refine aC (n6 h0 hp0 hlen hon hkc @a5) ?_;refine ar.fg (st':=⟨[(2,.buf 1 l.length 14 none)],8,[.gone,.cells (l.flatMap ah)],[]⟩) zH ?_;refine zE ?_;exact zP [.tmp 2]
def xB:SC Tryz.prog 137 [ak 2 ([]:List bO) au] [] [] (λr S'=>r=.e0 2/\S'=[]):=by
 refine K6 8 Tryz.func137 ?_;refine kD ?_;refine aI.Mh (by rfl) rfl rfl (by rfl) rfl rfl (by simp only[aw]) (by kernel_rfl) ?_;intro b _;refine zR ?_;cases b
 ·refine iK ?_;refine ar.fg (Fg.e0 2 2 (.inr ⟨0,rfl⟩)) ?_;refine ar.fg (st':=⟨[(2,.e0 2)],8,[],[]⟩) zH ?_;refine zE ?_;exact zP [.tmp 2]
 ·refine cL ?_;refine ar.fg (Fg.e0 2 2 (.inl rfl)) ?_;refine zE ?_;exact zP [.tmp 2]
def xC(l:List bO)(hlen:l.length<=1000000)(hne:l≠[]):SC Tryz.prog 137 [ak 2 l au] [] [] (λr S'=>r=.buf 1 l.length 2 none/\S'=[.gone,.cells (l.flatMap au)]):=by
 have h0:¬l.length=0:=λe=>hne (List.length_eq_zero_iff.1 e);refine K6 8 Tryz.func137 ?_;have hkc:=λo=>aZ (enc:=au) bY o l;have hon:(l.flatMap au).all ec=true:=vM l;refine kD ?_;refine aI.Mh (by rfl) rfl rfl (by rfl) rfl rfl (by simp only[aw]) (by kernel_rfl) ?_;intro b hb;cases b;rotate_left
 ·exact t8 (hb rfl) h0
 refine zR ?_;refine zN ?_;have hp0:0<l.length:=aS h0;refine aC (n6 h0 hp0 hlen hon hkc @a5) ?_;refine ar.fg (st':=⟨[(2,.buf 1 l.length 2 none)],8,[.gone,.cells (l.flatMap au)],[]⟩) zH ?_;refine zE ?_;exact zP [.tmp 2]
def Bj:SC Tryz.prog 40 [ak 14 ([]:List bJ) aF] [] [] (λr S'=>r=.e0 14/\S'=[]):=by
 refine K6 8 Tryz.func40 ?_;refine kD ?_;refine aI.Mh (by rfl) rfl rfl (by rfl) rfl rfl (by simp only[aw]) (by kernel_rfl) ?_;intro b _;refine zR ?_;cases b
 ·refine iK ?_;refine ar.fg (Fg.e0 2 14 (.inr ⟨0,rfl⟩)) ?_;refine ar.fg (st':=⟨[(2,.e0 14)],8,[],[]⟩) zH ?_;refine zE ?_;exact zP [.tmp 2]
 ·refine cL ?_;refine ar.fg (Fg.e0 2 14 (.inl rfl)) ?_;refine zE ?_;exact zP [.tmp 2]
def Bk(l:List bJ)(hlen:l.length<=1000000)(hne:l≠[]):SC Tryz.prog 40 [ak 14 l aF] [] [] (λr S'=>r=.buf 1 l.length 14 none/\S'=[.gone,.cells (l.flatMap aF)]):=by
 have h0:¬l.length=0:=λe=>hne (List.length_eq_zero_iff.1 e);refine K6 8 Tryz.func40 ?_;have hkc:=λo=>aZ (enc:=aF) cY o l;have hon:(l.flatMap aF).all ec=true:=Kr l;refine kD ?_;refine aI.Mh (by rfl) rfl rfl (by rfl) rfl rfl (by simp only[aw]) (by kernel_rfl) ?_;intro b hb;cases b;rotate_left
 ·exact t8 (hb rfl) h0
 refine zR ?_;refine zN ?_;have hp0:0<l.length:=aS h0;refine aC (n6 h0 hp0 hlen hon hkc @a5) ?_;refine ar.fg (st':=⟨[(2,.buf 1 l.length 14 none)],8,[.gone,.cells (l.flatMap aF)],[]⟩) zH ?_;refine zE ?_;exact zP [.tmp 2]
end Go.Proofs
