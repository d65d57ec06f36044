/- A part of the texts of this claim: every theorem says what it proves, with its conditions. -/
import Derived.Test.YtnaiockballhaaaGreatA28
import Derived.Test.YtnaiockballhaaaGreatA23
set_option linter.unusedSimpArgs false
set_option linter.unusedVariables false
set_option linter.unusedSectionVars false
open Nat (reduceEqDiff zero_mul)
open Int (le_refl)
open List (foldl_nil length_cons length_nil take_zero drop_zero append_assoc append_nil length_append take_length flatMap_cons)
open Bool (and_eq_true)
namespace Go.Proofs
open Go.Ev
set_option maxRecDepth 100000
def cW(a0 a1 lo hi:Int):List (Int×Int):=if lo<=hi then [(oY a0 a1 lo,oX a0 a1 lo)]++[(oY a0 a1 hi,oX a0 a1 hi)] else []
def lk(a0 a1 b0 b1:Int):List (Int×Int):=(if b0<=0/\0<=b1 then [(0,0)] else [])++cW a0 a1 (dQ b0 1) b1++cW a0 a1 b0 (dR b1 (-1))
def iC(x y:Int×Int):Int×Int:=lx x.1 x.2 y.1 y.2
def jo(a0 a1 b0 b1:Int):Int×Int:=(lk a0 a1 b0 b1).foldl iC ((lk a0 a1 b0 b1).headD (0,0))
theorem uc{α:Type}{f:α->α->α}{l:List α}{i:Nat}{x a:α}(h:l[i]?=some x):(l.take (i+1)).foldl f a=f ((l.take i).foldl f a) x:=by
 rw[List.take_add_one,h,Option.toList_some,List.foldl_append];rfl
set_option maxHeartbeats 2000000 in
theorem Fu(a0 a1 b0 b1:Int)(hb:b0<=b1):PC Tryz.prog 234 [kJ a0 a1,kJ b0 b1] (·=nj (jo a0 a1 b0 b1)):=by
 refine pB 51 Tryz.func234 ?_;have hkc:∀(o:Nat) (l:List (Int×Int)),(l.flatMap cQ).map (bf o)=l.flatMap cQ:=λo l=>aW lF o l;have hrc:∀(g:Nat->Nat) (l:List (Int×Int)),jM g (l.flatMap cQ)=l.flatMap cQ:=λg l=>aZ (aB lF l);have hbc:∀(B:Nat) (l:List (Int×Int)),fc B (l.flatMap cQ)=true:=λB l=>bu (aB lF l);have hcl:∀l:List (Int×Int),(l.flatMap cQ).length=l.length*2:=aJ qc;refine aE @kJ.eq_1 ?_;refine zV ?_;by_cases hz:b0<=0/\0<=b1
 ·refine aE (n2 (show decide (b0<=0)=true by simpa using hz.1) (show decide (0<=b1)=true by simpa using hz.2)) ?_;refine cE ?_;refine zV ?_
  have hm1:dQ b0 1=1:=by unfold dQ;split<;>omega
  have d1:lk a0 a1 b0 b1=([(0,0)]++cW a0 a1 1 b1)++cW a0 a1 b0 (dR b1 (-1)):=by rw[lk,if_pos hz,hm1]
  (repeat refine ai.seq ?_)
  refine ai.mono (Q:=λe st=>e=.normal/\Fg st ⟨[(3,.ptr 1 0),(4,.ptr 2 0),(5,.ptr 3 0),(6,.fn 239 [] [.ptr 0 0,.ptr 3 0])],51,[.cells [aa a0,aa a1],.cells [aa b0,aa b1],.cells [aa 0,aa 0],.cells [.buf 5 ([(0,0)]++cW a0 a1 1 b1).length 2 none],.gone,.cells (([(0,0)]++cW a0 a1 1 b1).flatMap cQ)],[]⟩) ?_ ?_
  ·by_cases h1:(1:Int)<=b1
   ·refine gl (n2 @e8 hm1) ?_;have hd:=vk a0 a1 1 b1 [(0,0)] (by decide) h1;rw[show[((0:Int),(0:Int))].flatMap cQ=[aa 0,aa 0] from rfl,show[((0:Int),(0:Int))].length=1 from rfl] at hd;refine zS [0,3,5] (n3 hrc hbc hkc) hd ?_;refine zR ?_;refine⟨rfl,(Fg.less (by (simp only[bx,aX,cw,↓reduceIte,reduceEqDiff,cW,if_pos h1,length_append,length_cons,length_nil,append_assoc])<;>(repeat' apply And.intro)<;>first | rfl | trivial) (by (simp only[bx,aX,or_true,true_or,cW,if_pos h1,length_append,length_cons,length_nil,append_assoc])<;>(repeat' apply And.intro)<;>first | exact .inr rfl | exact .inl rfl | trivial))⟩
   ·refine gl (n2 @e8 hm1) ?_;have hd:=pS a0 a1 1 b1 1 [aa 0,aa 0] h1;refine zS [0,3,5] (n3 hrc hbc hkc) hd ?_;refine zR ?_;refine⟨rfl,(Fg.less (by (simp only[bx,aX,cw,↓reduceIte,reduceEqDiff,cW,if_neg h1,append_nil,length_cons,length_nil,flatMap_cons,List.flatMap_nil,cQ])<;>(repeat' apply And.intro)<;>first | rfl | trivial) (by (simp only[bx,aX,or_true,true_or,cW,if_neg h1,append_nil,length_cons,length_nil,flatMap_cons,List.flatMap_nil,cQ])<;>(repeat' apply And.intro)<;>first | exact .inr rfl | exact .inl rfl | trivial))⟩
  rintro e st ⟨rfl,hfg⟩;refine ai.fg hfg ?_;clear hfg
  (try change ai _ _ _ _ _)
  have hq1:([(0,0)]++cW a0 a1 1 b1).length<=1000:=by
   unfold cW;split<;>simp
  (repeat refine ai.seq ?_)
  refine ai.mono (Q:=λe st=>e=.normal/\Fg st ⟨[(3,.ptr 1 0),(4,.ptr 2 0),(5,.ptr 3 0),(6,.fn 239 [] [.ptr 0 0,.ptr 3 0])],51,[.cells [aa a0,aa a1],.cells [aa b0,aa b1],.cells [aa 0,aa 0],.cells [.buf 5 (([(0,0)]++cW a0 a1 1 b1)++cW a0 a1 b0 (dR b1 (-1))).length 2 none],.gone,.cells ((([(0,0)]++cW a0 a1 1 b1)++cW a0 a1 b0 (dR b1 (-1))).flatMap cQ)],[]⟩) ?_ ?_
  ·generalize ([(0,0)]++cW a0 a1 1 b1)=q1 at hq1;by_cases h2:b0<=dR b1 (-1)
   ·refine gl @gQ ?_;have hd:=vk a0 a1 b0 (dR b1 (-1)) q1 hq1 h2;refine zS [0,3,5] (n3 hrc hbc hkc) hd ?_;refine zR ?_;refine⟨rfl,(Fg.less (by (simp only[bx,aX,cw,↓reduceIte,reduceEqDiff,cW,if_pos h2,length_append,length_cons,length_nil,append_assoc])<;>(repeat' apply And.intro)<;>first | rfl | trivial) (by (simp only[bx,aX,or_true,true_or,cW,if_pos h2,length_append,length_cons,length_nil,append_assoc])<;>(repeat' apply And.intro)<;>first | exact .inr rfl | exact .inl rfl | trivial))⟩
   ·refine gl @gQ ?_;have hd:=pS a0 a1 b0 (dR b1 (-1)) q1.length (q1.flatMap cQ) h2;refine zS [0,3,5] (n3 hrc hbc hkc) hd ?_;refine zR ?_;refine⟨rfl,(Fg.less (by (simp only[bx,aX,cw,↓reduceIte,reduceEqDiff,cW,if_neg h2,append_nil])<;>(repeat' apply And.intro)<;>first | rfl | trivial) (by (simp only[bx,aX,or_true,true_or,cW,if_neg h2,append_nil])<;>(repeat' apply And.intro)<;>first | exact .inr rfl | exact .inl rfl | trivial))⟩
  rintro e st ⟨rfl,hfg⟩;refine ai.fg hfg ?_;clear hfg
  (try change ai _ _ _ _ _)
  obtain⟨rows,hrows⟩:∃rows,rows=(([(0,0)]++cW a0 a1 1 b1)++cW a0 a1 b0 (dR b1 (-1))):=⟨_,rfl⟩
  have hne:rows≠[]:=by rw[hrows];simp
  obtain⟨x0,hr0⟩:∃x0,rows[0]?=some x0:=by
   cases h:rows with
   | nil=>exact absurd h hne
   | cons x r=>exact⟨x,rfl⟩
  have h0r:0<rows.length:=bl hr0
  have hlen:rows.length<=1000000:=by rw[hrows];(unfold cW;split<;>split<;>simp)
  have hD:jo a0 a1 b0 b1=rows.foldl iC x0:=by rw[jo,d1,<-hrows,show rows.headD (0,0)=x0 by cases rows with | nil=>exact absurd rfl hne | cons x r=>simpa using hr0]
  have ht2:(rows.flatMap cQ).take 2=[aa x0.1,aa x0.2]:=by
   have:=aH (e:=2) (enc:=cQ) (λ_=>rfl) hr0
   rwa [zero_mul,drop_zero] at this
  rw[<-hrows];clear hrows;refine aE (n7 (show c9 (.int .i64 0)=some 0 from rfl) @zero_mul h0r hkc hcl ht2 (show 2<=rows.length*2 by omega)) ?_;refine zV ?_;refine zs ?_;refine zL rows (λk=>True) (λk=>[(4,.ptr 2 0),(7,.ptr 6 0),(40,.buf 5 rows.length 2 none),(41,aa rows.length),(42,aa k)]) (λk=>[.gone,.gone,.cells [aa 0,aa 0],.gone,.gone,.cells (rows.flatMap cQ),.cells [aa ((rows.take k).foldl iC x0).1,aa ((rows.take k).foldl iC x0).2]]) (Fg.less (by (simp only[bx,aX,cw,↓reduceIte,reduceEqDiff,take_zero,foldl_nil,hkc])<;>(repeat' apply And.intro)<;>first | rfl | trivial) (by (simp only[bx,aX,or_true,true_or,take_zero,foldl_nil,hkc])<;>(repeat' apply And.intro)<;>first | exact .inr rfl | exact .inl rfl | trivial)) zp ?_;intro k hk hall;refine zV ?_;by_cases hlt:k<rows.length;rotate_left;obtain rfl:k=rows.length:=(by omega);rw[zf];rotate_left;rw[zt hlt];obtain⟨x,hx⟩:=zx hlt;rotate_left
  ·refine zN ?_;refine ai.exit ?_;rw[take_length];refine zV ?_;refine zE ?_;exact zO [.cell 4 72] (hq:=by (try simp only[aC,ab]);first | done | (rw[hD,nj,kJ]))
  have hst:=uc (f:=iC) (a:=x0) hx;obtain⟨p,q,hpq⟩:∃p q,(rows.take k).foldl iC x0=(p,q):=⟨_,_,rfl⟩;rw[hpq] at hst ⊢;refine zY ?_
  (repeat refine ai.seq ?_)
  refine ai.block ?_;refine aE (n6 hlt (aH (e:=2) (enc:=cQ) (λ_=>rfl) hx) @cQ.eq_1 hcl (show k*2+2<=rows.length*2 by omega) hkc) ?_;refine zC ?_;refine zK (mT p q x.1 x.2) ?_;refine cS (n2 @nj.eq_1 @kJ.eq_1) ?_;refine aE (zi hlt hlen) ?_;refine zX hlt (cI (n3 hst @iC.eq_1 hkc)) trivial
 by_cases hp:1<=b0
 ·refine aE (show decide (b0<=0)=false by simp;omega) ?_;refine gX ?_
  have hm1:dQ b0 1=b0:=by unfold dQ;split<;>omega
  have hm2:dR b1 (-1) = -1:=by unfold dR;split<;>omega
  have d1:lk a0 a1 b0 b1=[(oY a0 a1 b0,oX a0 a1 b0),(oY a0 a1 b1,oX a0 a1 b1)]:=by rw[lk,if_neg hz,hm1,hm2,cW,if_pos hb,cW,if_neg (by omega)];rfl
  refine gl (n2 @e8 hm1) ?_;have hd:=vl a0 a1 b0 b1 hb;refine zS [0,3] (n3 hrc hbc hkc) hd ?_;refine zR ?_;refine gl (n2 @gQ hm2) ?_;have hd2:=pS a0 a1 b0 (-1) 2 [aa (oY a0 a1 b0),aa (oX a0 a1 b0),aa (oY a0 a1 b1),aa (oX a0 a1 b1)] (by omega);refine zS [0,3,6] (n3 hrc hbc hkc) hd2 ?_;refine zR ?_;obtain⟨rows,hrows⟩:∃rows,rows=[(oY a0 a1 b0,oX a0 a1 b0),(oY a0 a1 b1,oX a0 a1 b1)]:=⟨_,rfl⟩
  have hne:rows≠[]:=by rw[hrows];simp
  obtain⟨x0,hr0⟩:∃x0,rows[0]?=some x0:=by
   cases h:rows with
   | nil=>exact absurd h hne
   | cons x r=>exact⟨x,rfl⟩
  have h0r:0<rows.length:=bl hr0
  have hlen:rows.length<=1000000:=by rw[hrows];simp
  have hD:jo a0 a1 b0 b1=rows.foldl iC x0:=by rw[jo,d1,<-hrows,show rows.headD (0,0)=x0 by cases rows with | nil=>exact absurd rfl hne | cons x r=>simpa using hr0]
  have ht2:(rows.flatMap cQ).take 2=[aa x0.1,aa x0.2]:=by
   have:=aH (e:=2) (enc:=cQ) (λ_=>rfl) hr0
   rwa [zero_mul,drop_zero] at this
  rw[show([aa (oY a0 a1 b0),aa (oX a0 a1 b0),aa (oY a0 a1 b1),aa (oX a0 a1 b1)]:List SV)=rows.flatMap cQ by rw[hrows];rfl,show(SV.buf 6 2 2 none)=.buf 6 rows.length 2 none by rw[hrows];rfl];clear hrows;refine aE (n7 (show c9 (.int .i64 0)=some 0 from rfl) @zero_mul h0r hkc hcl ht2 (show 2<=rows.length*2 by omega)) ?_;refine zV ?_;refine zs ?_;refine zL rows (λk=>True) (λk=>[(4,.ptr 2 0),(7,.ptr 7 0),(40,.buf 6 rows.length 2 none),(41,aa rows.length),(42,aa k)]) (λk=>[.gone,.gone,.cells [aa 0,aa 0],.gone,.gone,.gone,.cells (rows.flatMap cQ),.cells [aa ((rows.take k).foldl iC x0).1,aa ((rows.take k).foldl iC x0).2]]) (Fg.less (by (simp only[bx,aX,cw,↓reduceIte,reduceEqDiff,take_zero,foldl_nil,hkc])<;>(repeat' apply And.intro)<;>first | rfl | trivial) (by (simp only[bx,aX,or_true,true_or,take_zero,foldl_nil,hkc])<;>(repeat' apply And.intro)<;>first | exact .inr rfl | exact .inl rfl | trivial)) zp ?_;intro k hk hall;refine zV ?_;by_cases hlt:k<rows.length;rotate_left;obtain rfl:k=rows.length:=(by omega);rw[zf];rotate_left;rw[zt hlt];obtain⟨x,hx⟩:=zx hlt;rotate_left
  ·refine zN ?_;refine ai.exit ?_;rw[take_length];refine zV ?_;refine zE ?_;exact zO [.cell 4 72] (hq:=by (try simp only[aC,ab]);first | done | (rw[hD,nj,kJ]))
  have hst:=uc (f:=iC) (a:=x0) hx;obtain⟨p,q,hpq⟩:∃p q,(rows.take k).foldl iC x0=(p,q):=⟨_,_,rfl⟩;rw[hpq] at hst ⊢;refine zY ?_
  (repeat refine ai.seq ?_)
  refine ai.block ?_;refine aE (n6 hlt (aH (e:=2) (enc:=cQ) (λ_=>rfl) hx) @cQ.eq_1 hcl (show k*2+2<=rows.length*2 by omega) hkc) ?_;refine zC ?_;refine zK (mT p q x.1 x.2) ?_;refine cS (n2 @nj.eq_1 @kJ.eq_1) ?_;refine aE (zi hlt hlen) ?_;refine zX hlt (cI (n3 hst @iC.eq_1 hkc)) trivial
 ·have hn:b1 <= -1:=by omega
  by_cases hq0:b0<=0;rotate_left
  ·omega
  refine aE (n2 (show decide (b0<=0)=true by simpa using hq0) (show decide (0<=b1)=false by simp;omega)) ?_;refine gX ?_
  have hm1:dQ b0 1=1:=by unfold dQ;split<;>omega
  have hm2:dR b1 (-1)=b1:=by unfold dR;split<;>omega
  have d1:lk a0 a1 b0 b1=[(oY a0 a1 b0,oX a0 a1 b0),(oY a0 a1 b1,oX a0 a1 b1)]:=by rw[lk,if_neg hz,hm1,hm2,cW,if_neg (by omega),cW,if_pos hb];rfl
  refine gl (n2 @e8 hm1) ?_;have hd:=Ft a0 a1 1 b1 (by omega);refine zS [0,3] (n3 hrc hbc hkc) hd ?_;refine zR ?_;refine gl (n2 @gQ hm2) ?_;have hd2:=vl a0 a1 b0 b1 hb;refine zS [0,3] (n3 hrc hbc hkc) hd2 ?_;refine zR ?_;obtain⟨rows,hrows⟩:∃rows,rows=[(oY a0 a1 b0,oX a0 a1 b0),(oY a0 a1 b1,oX a0 a1 b1)]:=⟨_,rfl⟩
  have hne:rows≠[]:=by rw[hrows];simp
  obtain⟨x0,hr0⟩:∃x0,rows[0]?=some x0:=by
   cases h:rows with
   | nil=>exact absurd h hne
   | cons x r=>exact⟨x,rfl⟩
  have h0r:0<rows.length:=bl hr0
  have hlen:rows.length<=1000000:=by rw[hrows];simp
  have hD:jo a0 a1 b0 b1=rows.foldl iC x0:=by rw[jo,d1,<-hrows,show rows.headD (0,0)=x0 by cases rows with | nil=>exact absurd rfl hne | cons x r=>simpa using hr0]
  have ht2:(rows.flatMap cQ).take 2=[aa x0.1,aa x0.2]:=by
   have:=aH (e:=2) (enc:=cQ) (λ_=>rfl) hr0
   rwa [zero_mul,drop_zero] at this
  rw[show([aa (oY a0 a1 b0),aa (oX a0 a1 b0),aa (oY a0 a1 b1),aa (oX a0 a1 b1)]:List SV)=rows.flatMap cQ by rw[hrows];rfl,show(SV.buf 6 2 2 none)=.buf 6 rows.length 2 none by rw[hrows];rfl];clear hrows;refine aE (n7 (show c9 (.int .i64 0)=some 0 from rfl) @zero_mul h0r hkc hcl ht2 (show 2<=rows.length*2 by omega)) ?_;refine zV ?_;refine zs ?_;refine zL rows (λk=>True) (λk=>[(4,.ptr 2 0),(7,.ptr 7 0),(40,.buf 6 rows.length 2 none),(41,aa rows.length),(42,aa k)]) (λk=>[.gone,.gone,.cells [aa 0,aa 0],.gone,.gone,.gone,.cells (rows.flatMap cQ),.cells [aa ((rows.take k).foldl iC x0).1,aa ((rows.take k).foldl iC x0).2]]) (Fg.less (by (simp only[bx,aX,cw,↓reduceIte,reduceEqDiff,take_zero,foldl_nil,hkc])<;>(repeat' apply And.intro)<;>first | rfl | trivial) (by (simp only[bx,aX,or_true,true_or,take_zero,foldl_nil,hkc])<;>(repeat' apply And.intro)<;>first | exact .inr rfl | exact .inl rfl | trivial)) zp ?_;intro k hk hall;refine zV ?_;by_cases hlt:k<rows.length;rotate_left;obtain rfl:k=rows.length:=(by omega);rw[zf];rotate_left;rw[zt hlt];obtain⟨x,hx⟩:=zx hlt;rotate_left
  ·refine zN ?_;refine ai.exit ?_;rw[take_length];refine zV ?_;refine zE ?_;exact zO [.cell 4 72] (hq:=by (try simp only[aC,ab]);first | done | (rw[hD,nj,kJ]))
  have hst:=uc (f:=iC) (a:=x0) hx;obtain⟨p,q,hpq⟩:∃p q,(rows.take k).foldl iC x0=(p,q):=⟨_,_,rfl⟩;rw[hpq] at hst ⊢;refine zY ?_
  (repeat refine ai.seq ?_)
  refine ai.block ?_;refine aE (n6 hlt (aH (e:=2) (enc:=cQ) (λ_=>rfl) hx) @cQ.eq_1 hcl (show k*2+2<=rows.length*2 by omega) hkc) ?_;refine zC ?_;refine zK (mT p q x.1 x.2) ?_;refine cS (n2 @nj.eq_1 @kJ.eq_1) ?_;refine aE (zi hlt hlen) ?_;refine zX hlt (cI (n3 hst @iC.eq_1 hkc)) trivial
structure iu where
 u1:Int
 u2:Int
 u3:Int
 u4:Int
 u5:Int
 u6:Int
def dJ(u:iu):List SV:=[aa u.u1,aa u.u2,aa u.u3,aa u.u4,aa u.u5,aa u.u6]
def mJ(u:iu)(op:Int):Int×Int:=if op=2 then (u.u1,u.u2) else if op=3 then (u.u3,u.u4) else (u.u5,u.u6)
def applyN(op:Int)(a b:Int×Int):Int×Int:=
 if op=5 then eW jB a.1 a.2 b.1 b.2 else if op=6 then eW B8 a.1 a.2 b.1 b.2 else if op=7 then eW yn a.1 a.2 b.1 b.2
 else if op=9 then (dR a.1 b.1,dR a.2 b.2) else if op=10 then (dQ a.1 b.1,dQ a.2 b.2) else jo a.1 a.2 b.1 b.2
def mB(a b c:Int×Int):Int×Int:=if sK a.1 a.2 0=2 then b else if sK a.1 a.2 0=0 then c else lx b.1 b.2 c.1 c.2
theorem CU(u:iu)(n:Int):PC Tryz.prog 231 [.ag (dJ u),aa n] (·=nj (n,n)):=by
 refine pB 8 Tryz.func231 ?_;refine aE @dJ.eq_1 ?_;refine zV ?_;refine zE ?_;exact zO [.cell 4 72]
theorem CP(u:iu)(op:Int):PC Tryz.prog 230 [.ag (dJ u),aa op] (·=nj (mJ u op)):=by
 refine pB 19 Tryz.func230 ?_;refine aE @dJ.eq_1 ?_;refine zV ?_
 (repeat refine ai.seq ?_)
 refine ai.block ?_;cases h1:decide (op=2);rotate_left
 ·refine aE h1 ?_;refine cE ?_;refine zE ?_;exact zO [.cell 4 72] (hq:=by (try simp only[aC,ab]);first | done | (rw[mJ,if_pos (of_decide_eq_true h1)];rfl))
 refine aE h1 ?_;refine zN ?_;cases h2:decide (op=3);rotate_left
 ·refine aE h2 ?_;refine cE ?_;refine zE ?_;exact zO [.cell 4 72] (hq:=by (try simp only[aC,ab]);first | done | (rw[mJ,if_neg (of_decide_eq_false h1),if_pos (of_decide_eq_true h2)];rfl))
 refine aE h2 ?_;refine gX ?_;refine zE ?_;exact zO [.cell 4 72] (hq:=by (try simp only[aC,ab]);first | done | (rw[mJ,if_neg (of_decide_eq_false h1),if_neg (of_decide_eq_false h2)];rfl))
theorem Cx(u:iu)(a b c:Int×Int):PC Tryz.prog 229 [.ag (dJ u),nj a,nj b,nj c] (·=nj (mB a b c)):=by
 refine pB 20 Tryz.func229 ?_;refine aE (n3 @dJ.eq_1 @nj.eq_1 @kJ.eq_1) ?_;refine zC ?_;refine zK (FA a.1 a.2 0) ?_;refine zR ?_
 (repeat refine ai.seq ?_)
 refine ai.block ?_;cases h1:decide (sK a.1 a.2 0=2);rotate_left
 ·refine aE h1 ?_;refine cE ?_;refine zE ?_;exact zO [.cell 8 72] (hq:=by (try simp only[aC,ab]);first | done | (rw[mB,if_pos (of_decide_eq_true h1)];rfl))
 refine aE h1 ?_;refine zN ?_;cases h2:decide (sK a.1 a.2 0=0);rotate_left
 ·refine aE h2 ?_;refine cE ?_;refine zE ?_;exact zO [.cell 8 72] (hq:=by (try simp only[aC,ab]);first | done | (rw[mB,if_neg (of_decide_eq_false h1),if_pos (of_decide_eq_true h2)];rfl))
 refine aE h2 ?_;refine M9 ?_;refine zK (mT b.1 b.2 c.1 c.2) ?_;refine cS (n2 @nj.eq_1 @kJ.eq_1) ?_;refine zE ?_;exact zO [.cell 8 72] (hq:=by (try simp only[aC,ab]);first | done | (rw[mB,if_neg (of_decide_eq_false h1),if_neg (of_decide_eq_false h2)];rfl))
set_option maxHeartbeats 1000000 in
theorem Fi(u:iu)(op:Int)(a b:Int×Int)(hb:b.1<=b.2):PC Tryz.prog 228 [.ag (dJ u),aa op,nj a,nj b] (·=nj (applyN op a b)):=by
 refine pB 54 Tryz.func228 ?_;refine aE (n3 @dJ.eq_1 @nj.eq_1 @kJ.eq_1) ?_;refine zV ?_
 (repeat refine ai.seq ?_)
 refine ai.block ?_;cases h1:decide (op=5);rotate_left
 ·refine aE h1 ?_;refine zY ?_;refine zC ?_;refine zK (oH a.1 a.2 b.1 b.2) ?_;refine cS (n2 @nj.eq_1 @kJ.eq_1) ?_;refine zE ?_;exact zO [.cell 8 72] (hq:=by (try simp only[aC,ab]);first | done | (rw[applyN,if_pos (of_decide_eq_true h1)];rfl))
 have g1:=of_decide_eq_false h1;refine aE h1 ?_;refine zN ?_;cases h2:decide (op=6);rotate_left
 ·refine aE h2 ?_;refine zY ?_;refine zC ?_;refine zK (HG a.1 a.2 b.1 b.2) ?_;refine cS (n2 @nj.eq_1 @kJ.eq_1) ?_;refine zE ?_;exact zO [.cell 8 72] (hq:=by (try simp only[aC,ab]);first | done | (rw[applyN,if_neg g1,if_pos (of_decide_eq_true h2)];rfl))
 have g2:=of_decide_eq_false h2;refine aE h2 ?_;refine zN ?_;cases h3:decide (op=7);rotate_left
 ·refine aE h3 ?_;refine zY ?_;refine zC ?_;refine zK (HF a.1 a.2 b.1 b.2) ?_;refine cS (n2 @nj.eq_1 @kJ.eq_1) ?_;refine zE ?_;exact zO [.cell 8 72] (hq:=by (try simp only[aC,ab]);first | done | (rw[applyN,if_neg g1,if_neg g2,if_pos (of_decide_eq_true h3)];rfl))
 have g3:=of_decide_eq_false h3;refine aE h3 ?_;refine zN ?_;cases h4:decide (op=9);rotate_left
 ·refine aE h4 ?_;refine zY ?_;refine aE @gQ ?_;refine zE ?_;exact zO [.cell 8 72] (hq:=by (try simp only[aC,ab]);first | done | (rw[applyN,if_neg g1,if_neg g2,if_neg g3,if_pos (of_decide_eq_true h4)];rfl))
 have g4:=of_decide_eq_false h4;refine aE h4 ?_;refine zN ?_;cases h5:decide (op=10);rotate_left
 ·refine aE h5 ?_;refine zY ?_;refine aE @e8 ?_;refine zE ?_;exact zO [.cell 8 72] (hq:=by (try simp only[aC,ab]);first | done | (rw[applyN,if_neg g1,if_neg g2,if_neg g3,if_neg g4,if_pos (of_decide_eq_true h5)];rfl))
 have g5:=of_decide_eq_false h5;refine aE h5 ?_;refine M9 ?_;refine zK (Fu a.1 a.2 b.1 b.2 hb) ?_;refine cS (n2 @nj.eq_1 @kJ.eq_1) ?_;refine zE ?_;exact zO [.cell 8 72] (hq:=by (try simp only[aC,ab]);first | done | (rw[applyN,if_neg g1,if_neg g2,if_neg g3,if_neg g4,if_neg g5];rfl))
inductive bE where
 | mk (op n:Int) (kids:List bE)
def bE.op:bE->Int
 | .mk op _ _=>op
mutual
def aI:bE->List SV
 | .mk op n kids=>[aa op,aa n,.sl kids.length 3 (pc kids)]
def pc:List bE->List SV
 | []=>[]
 | f::fs=>aI f++pc fs
end
theorem uU:∀l:List bE,pc l=l.flatMap aI
 | []=>by rw[pc];rfl
 | f::l=>by rw[pc,uU l,flatMap_cons]
theorem dr(op n:Int)(kids:List bE):aI (.mk op n kids)=[aa op,aa n,.sl kids.length 3 (kids.flatMap aI)]:=by rw[aI,uU]
theorem eM(f:bE):(aI f).length=3:=by
 obtain⟨op,n,kids⟩:=f;rw[dr];rfl
theorem aO(f:bE):cr (aI f)=true:=by
 obtain⟨op,n,kids⟩:=f;rw[dr];rfl
inductive gm:bE->Prop
 | mk {op n:Int} {kids:List bE}:kids.length<=1000000->(∀k∈kids,gm k)->gm (.mk op n kids)
mutual
def fq:bE->Int->Int
 | .mk _ _ kids,most=>gE kids most 1
def gE:List bE->Int->Int->Int
 | [],_,n=>n
 | k::ks,most,n=>if most<n then n else gE ks most (Gq n (fq k (yl most n)))
end
set_option maxHeartbeats 1000000 in
theorem vu:∀(d:Nat) (f:bE),SizeOf.sizeOf f<d->gm f->∀most:Int,PC Tryz.prog 70 [.ag (aI f),aa most] (·=aa (fq f most))
 | 0,f,hd,_,_=>absurd hd (Nat.not_lt_zero _)
 | d+1,.mk op n kids,hd,hf,most=>by
  cases hf with
  | mk hlen hks=>
  have hkd:∀k∈kids,SizeOf.sizeOf k<d:=λk hk=>by
   have h1:=List.sizeOf_lt_of_mem hk
   have h2:SizeOf.sizeOf (bE.mk op n kids)=1+SizeOf.sizeOf op+SizeOf.sizeOf n+SizeOf.sizeOf kids:=by simp
   omega
  rw[dr,fq];refine pB 27 Tryz.func70 ?_;refine kQ ?_;refine zV ?_;refine zs ?_;refine ai.block (ai.loop (λm st=>∃k:Nat,∃acc:Int,k<=kids.length/\m=kids.length-k/\(gE kids most 1=gE (kids.drop k) most acc)/\st=⟨[(1,aa most),(5,aa acc),(9,an 3 kids aI),(10,aa kids.length),(11,aa k)],27,[],[]⟩) kids.length (Fg.less uR yS) ⟨0,1,Nat.zero_le _,rfl,(by rfl),rfl⟩ (by rintro m st ⟨k,_,_,_,_,rfl⟩;rfl) ?_);rintro m st ⟨k,acc,hk,rfl,hall,rfl⟩;refine zs ?_;refine ai.r0 (by rfl) zl ?_;by_cases hlt:k<kids.length;rotate_left;obtain rfl:k=kids.length:=(by omega);rw[show decide ((kids.length:Int)<(kids.length:Int))=false by simp];rotate_left;rw[show decide ((k:Int)<(kids.length:Int))=true by simp only[decide_eq_true_eq];omega];obtain⟨x,hx⟩:∃zz,kids[k]?=some zz:=⟨kids[k],List.getElem?_eq_getElem hlt⟩;rotate_left
  ·refine zN ?_;refine ai.exit ?_;refine zV ?_;refine zE ?_;exact zO [.tmp 4] (hq:=by (try simp only[aC,ab]);first | done | (rw[hall,List.drop_length,gE]))
  rw[eZ hx,gE] at hall;have hxm:=List.mem_of_getElem? hx;have ih:=vu d x (hkd x hxm) (hks x hxm);have hxl:((kids.flatMap aI).drop (k*3)).take 3=aI x:=aH (e:=3) (enc:=aI) eM hx;obtain⟨op',n',kids'⟩:=x;simp only[dr] at hxl ih;refine zY ?_
  (repeat refine ai.seq ?_)
  refine ai.block ?_;refine aE (n2 hlt hxl) ?_;cases h1:decide (most<acc);rotate_left
  ·refine aE h1 ?_;refine zY ?_;refine ai.exit ?_;refine zV ?_;refine zE ?_;exact zO [.tmp 4] (hq:=by (try simp only[aC,ab]);first | done | (rw[hall,if_pos (of_decide_eq_true h1)]))
  refine aE h1 ?_;refine zN ?_;rw[if_neg (of_decide_eq_false h1)] at hall;refine gl @o7 ?_;refine zK (ih (yl most acc)) ?_;refine cS @wO ?_;refine zs ?_;refine ai.r0 (by rfl) (gY (nh (dX hlt hlen (by decide)))) ?_;refine⟨kids.length-(k+1),_,by omega,(Fg.less uR yS),k+1,Gq acc (fq (.mk op' n' kids') (yl most acc)),by omega,rfl,hall,rfl⟩
theorem HP(f:bE)(hf:gm f)(most:Int):PC Tryz.prog 70 [.ag (aI f),aa most] (·=aa (fq f most)):=vu _ f (Nat.lt_succ_self _) hf most
def pZ(op:Int):Nat:=if op=11 then 3 else if 5<=op then 2 else 0
mutual
def fJ:bE->Bool
 | .mk op n kids=>(decide (1<=op)&&decide (op<=11))&&(decide (kids.length=pZ op)&&(!(decide (n<0))&&(!(decide (9999999<n))&&!(decide (0<n)&&!(decide (op=1))))))&&sT kids
def sT:List bE->Bool
 | []=>true
 | k::ks=>fJ k&&sT ks
end
theorem rq:∀l:List bE,sT l=l.all fJ
 | []=>by rw[sT];rfl
 | a::l=>by rw[sT,rq l,List.all_cons]
set_option maxHeartbeats 1000000 in
theorem vx:∀(d:Nat) (f:bE),SizeOf.sizeOf f<d->gm f->PC Tryz.prog 71 [.ag (aI f)] (·=aA (fJ f))
 | 0,f,hd,_=>absurd hd (Nat.not_lt_zero _)
 | d+1,.mk op n kids,hd,hf=>by
  cases hf with
  | mk hlen hks=>
  have hkd:∀k∈kids,SizeOf.sizeOf k<d:=λk hk=>by
   have h1:=List.sizeOf_lt_of_mem hk
   have h2:SizeOf.sizeOf (bE.mk op n kids)=1+SizeOf.sizeOf op+SizeOf.sizeOf n+SizeOf.sizeOf kids:=by simp
   omega
  rw[dr,fJ,rq];refine pB 59 Tryz.func71 ?_;refine kQ ?_
  (repeat refine ai.seq ?_)
  cases h1:decide (op<1);rotate_left
  ·refine ai.block ?_;refine aE h1 ?_;refine cE ?_;refine zE ?_;exact zO [.tmp 2] (hq:=by (try simp only[aC,ab]);first | done | (rw[show decide (1<=op)=false by have:=of_decide_eq_true h1;simp;omega];rfl))
  cases h2:decide (11<op);rotate_left
  ·refine ai.block ?_;refine aE (n2 h1 h2) ?_;refine cE ?_;refine zE ?_;exact zO [.tmp 2] (hq:=by (try simp only[aC,ab]);first | done | (rw[show decide (op<=11)=false by have:=of_decide_eq_true h2;simp;omega,Bool.and_false];rfl))
  have g1:=of_decide_eq_false h1;have g2:=of_decide_eq_false h2;rw[show decide (1<=op)=true by simp;omega,show decide (op<=11)=true by simp;omega];refine ai.mono (Q:=λe st=>e=.normal/\Fg st ⟨[(1,.ptr 0 0),(3,bX (pZ op))],59,[.cells [aa op,aa n,.sl kids.length 3 (kids.flatMap aI)]],[]⟩) ?_ ?_
  ·refine ai.block ?_;refine aE (n2 h1 h2) ?_;refine zN ?_;cases h3:decide (op=11);rotate_left
   ·refine aE h3 ?_;refine cE ?_;exact⟨rfl,(Fg.less (by (simp only[bx,aX,cw,↓reduceIte,Nat.reduceEqDiff,pZ,if_pos (of_decide_eq_true h3)])<;>(repeat' apply And.intro)<;>first | rfl | trivial) (by (simp only[bx,aX,or_true,true_or,pZ,if_pos (of_decide_eq_true h3)])<;>(repeat' apply And.intro)<;>first | exact .inr rfl | exact .inl rfl | trivial))⟩
   refine aE h3 ?_;refine zN ?_;cases h4:decide (5<=op);rotate_left
   ·refine aE h4 ?_;refine cE ?_;exact⟨rfl,(Fg.less (by (simp only[bx,aX,cw,↓reduceIte,Nat.reduceEqDiff,pZ,if_neg (of_decide_eq_false h3),if_pos (of_decide_eq_true h4)])<;>(repeat' apply And.intro)<;>first | rfl | trivial) (by (simp only[bx,aX,or_true,true_or,pZ,if_neg (of_decide_eq_false h3),if_pos (of_decide_eq_true h4)])<;>(repeat' apply And.intro)<;>first | exact .inr rfl | exact .inl rfl | trivial))⟩
   ·refine aE h4 ?_;refine zN ?_;exact⟨rfl,(Fg.less (by (simp only[bx,aX,cw,↓reduceIte,Nat.reduceEqDiff,pZ,if_neg (of_decide_eq_false h3),if_neg (of_decide_eq_false h4)])<;>(repeat' apply And.intro)<;>first | rfl | trivial) (by (simp only[bx,aX,or_true,true_or,pZ,if_neg (of_decide_eq_false h3),if_neg (of_decide_eq_false h4)])<;>(repeat' apply And.intro)<;>first | exact .inr rfl | exact .inl rfl | trivial))⟩
  rintro e st ⟨rfl,hfg⟩;refine ai.fg hfg ?_;clear hfg
  (try change ai _ _ _ _ _)
  generalize pZ op=w;by_cases h3:kids.length=w;rotate_left
  ·rw[show decide (kids.length=w)=false by simpa using h3];refine aE (show decide ((kids.length:Int)=(w:Int))=false by simp;omega) ?_;refine cE ?_;refine zE ?_;exact zO [.tmp 2]
  rw[show decide (kids.length=w)=true by simpa using h3]
  have h3':decide ((kids.length:Int)=(w:Int))=true:=by simp;omega
  cases h4:decide (n<0);rotate_left
  ·refine aE (n2 h3' h4) ?_;refine cE ?_;refine zE ?_;exact zO [.tmp 2]
  cases h5:decide (9999999<n);rotate_left
  ·refine aE (n3 h3' h4 h5) ?_;refine cE ?_;refine zE ?_;exact zO [.tmp 2]
  by_cases h7:(decide (0<n)&&!(decide (op=1)))=true
  ·rw[Bool.and_eq_true,Bool.not_eq_true'] at h7;refine aE (n5 h3' h4 h5 @h7.1 @h7.2) ?_;refine cE ?_;refine zE ?_;exact zO [.tmp 2] (hq:=by (try simp only[aC,ab]);first | done | (rw[h7.1,h7.2];rfl))
  have h8:(decide (0<n)&&!(decide (op=1)))=false:=by simpa using h7
  rw[h8]
  (repeat refine ai.seq ?_)
  refine ai.mono (Q:=λe st=>e=.normal/\Fg st ⟨[(1,.ptr 0 0),(47,aA false)],59,[.cells [aa op,aa n,.sl kids.length 3 (kids.flatMap aI)]],[]⟩) ?_ ?_
  ·cases h6:decide (0<n)
   ·refine aE (n4 h3' h4 h5 h6) ?_;exact⟨rfl,zH⟩
   ·rw[h6] at h8
    have h9:decide (op=1)=true:=by
     cases h:decide (op=1) with
     | true=>rfl
     | false=>rw[h] at h8;cases h8
    refine aE (n5 h3' h4 h5 h6 h9) ?_;exact⟨rfl,zH⟩
  rintro e st ⟨rfl,hfg⟩;refine ai.fg hfg ?_;clear hfg
  (try change ai _ _ _ _ _)
  refine gX ?_;refine zs ?_;refine zL kids (λk=>(kids.take k).all fJ=true) (λk=>[(49,an 3 kids aI),(50,aa kids.length),(51,aa k)]) (λk=>[]) zH zp ?_;intro k hk hall;refine zV ?_;by_cases hlt:k<kids.length;rotate_left;obtain rfl:k=kids.length:=(by omega);rw[zf];rotate_left;rw[zt hlt];obtain⟨x,hx⟩:=zx hlt;rotate_left
  ·refine zN ?_;refine ai.exit ?_;refine zV ?_;rw[List.take_length] at hall;refine zE ?_;exact zO [.tmp 2] (hq:=by (try simp only[aC,ab]);first | done | (rw[hall];rfl))
  have hxm:=List.mem_of_getElem? hx;have ih:=vx d x (hkd x hxm) (hks x hxm);have hxl:((kids.flatMap aI).drop (k*3)).take 3=aI x:=aH (e:=3) (enc:=aI) eM hx
  have hnext:fJ x=true->(kids.take (k+1)).all fJ=true:=λh=>by rw[bo hx,List.all_append,hall];simp[h]
  have hbad:fJ x=false->kids.all fJ=false:=λh=>by rw[List.all_eq_false];exact⟨x,hxm,by rw[h];decide⟩
  obtain⟨op',n',kids'⟩:=x;simp only[dr] at hxl ih;refine zY ?_
  (repeat refine ai.seq ?_)
  refine ai.block ?_;refine aE (n2 hlt hxl) ?_;refine zC ?_;refine zK ih ?_;cases h10:fJ (.mk op' n' kids')
  ·refine zR ?_;refine cE ?_;refine zE ?_;exact zO [.tmp 2] (hq:=by (try simp only[aC,ab]);first | done | (rw[hbad h10];rfl))
  refine zR ?_;refine zN ?_;refine aE (zi hlt hlen) ?_;refine zX hlt zH (hnext h10)
theorem yL(f:bE)(hf:gm f):PC Tryz.prog 71 [.ag (aI f)] (·=aA (fJ f)):=vx _ f (Nat.lt_succ_self _) hf
def eK(f:bE):Bool:=decide (fq f 60<=60)&&fJ f
theorem pW(f:bE)(hf:gm f):PC Tryz.prog 34 [.ag (aI f)] (·=aA (Proofs.eK f)):=by
 have hn:=HP f hf 60;have hr:=yL f hf;refine pB 10 Tryz.func34 ?_;have hv:Proofs.eK f=(decide (fq f 60<=60)&&fJ f):=rfl;generalize fq f 60=N at hn hv;generalize fJ f=R at hr hv;obtain⟨op,n,kids⟩:=f;rw[dr] at hn hr ⊢;refine ki ?_;refine zK hn ?_;cases h1:decide (N<=60)
 ·refine cS h1 ?_;refine zE ?_;exact zO [.tmp 2] (hq:=by (try simp only[aC,ab]);first | done | (rw[hv,h1];rfl))
 refine PH h1 ?_;refine zK hr ?_;refine zR ?_;refine zE ?_;exact zO [.tmp 2] (hq:=by (try simp only[aC,ab]);first | done | (rw[hv,h1];rfl))
mutual
def l7(u:iu):bE->Int×Int
 | .mk op n kids=>
  if op=1 then (n,n) else if op<=4 then mJ u op
  else match mP u kids with
   | a::b::l=>if op=11 then (match l with
    | c::_=>mB a b c
    | []=>(0,0)) else applyN op a b
   | _=>(0,0)
def mP(u:iu):List bE->List (Int×Int)
 | []=>[]
 | k::ks=>l7 u k::mP u ks
end
theorem IK(p q r s:Int):dR (dR (dR p q) r) s<=dQ (dQ (dQ p q) r) s:=by
 have h1:∀a b:Int,dR a b<=a:=λa b=>by unfold dR;split<;>omega
 have h2:∀a b:Int,a<=dQ a b:=λa b=>by unfold dQ;split<;>omega
 have:=h1 p q;have:=h1 (dR p q) r;have:=h1 (dR (dR p q) r) s;have:=h2 p q;have:=h2 (dQ p q) r;have:=h2 (dQ (dQ p q) r) s;omega
theorem BJ(f:Int->Int->Int)(a b c d:Int):(eW f a b c d).1<=(eW f a b c d).2:=by
 unfold eW;split
 ·exact IK _ _ _ _
 ·exact le_refl _
theorem join_le(a b c d:Int):(lx a b c d).1<=(lx a b c d).2:=by
 unfold lx;split
 ·exact IK _ _ _ _
 ·exact le_refl _
theorem NH(l:List (Int×Int))(x:Int×Int)(h:l≠[]):(l.foldl iC x).1<=(l.foldl iC x).2:=by
 rcases List.eq_nil_or_concat l with rfl | ⟨a,y,rfl⟩
 ·exact absurd rfl h
 ·rw[List.concat_eq_append,List.foldl_append];exact join_le _ _ _ _
theorem JQ(a0 a1 b0 b1:Int):(jo a0 a1 b0 b1).1<=(jo a0 a1 b0 b1).2:=by
 unfold jo;by_cases h:lk a0 a1 b0 b1=[]
 ·rw[h];exact le_refl _
 ·exact NH _ _ h
theorem AZ{a b c d:Int}(h1:a<=b)(h2:c<=d):dR a c<=dR b d/\dQ a c<=dQ b d:=by
 unfold dR dQ;constructor<;>split<;>split<;>omega
theorem K9(op:Int){a b:Int×Int}(ha:a.1<=a.2)(hb:b.1<=b.2):(applyN op a b).1<=(applyN op a b).2:=by
 unfold applyN;split
 ·exact BJ _ _ _ _ _
 split
 ·exact BJ _ _ _ _ _
 split
 ·exact BJ _ _ _ _ _
 split
 ·exact(AZ ha hb).1
 split
 ·exact(AZ ha hb).2
 ·exact JQ _ _ _ _
theorem JJ{a b c:Int×Int}(hb:b.1<=b.2)(hc:c.1<=c.2):(mB a b c).1<=(mB a b c).2:=by
 unfold mB;split
 ·exact hb
 split
 ·exact hc
 ·exact join_le _ _ _ _
structure iu.ok (u:iu):Prop where
 a:u.u1<=u.u2
 b:u.u3<=u.u4
 c:u.u5<=u.u6
theorem J6{u:iu}(h:u.ok)(op:Int):(mJ u op).1<=(mJ u op).2:=by
 unfold mJ;split
 ·exact h.a
 split
 ·exact h.b
 ·exact h.c
mutual
theorem Jk{u:iu}(h:u.ok):∀f:bE,(l7 u f).1<=(l7 u f).2
 | .mk op n kids=>by
  have ih:=E7 h kids;rw[l7];split
  ·exact le_refl _
  split
  ·exact J6 h op
  ·split
   ·rename_i a b l hl;rw[hl] at ih;split
    ·split
     ·exact JJ (ih _ (by simp)) (ih _ (by simp))
     ·exact le_refl _
    ·exact K9 op (ih _ (by simp)) (ih _ (by simp))
   ·exact le_refl _
theorem E7{u:iu}(h:u.ok):∀l:List bE,∀p∈mP u l,p.1<=p.2
 | [],p,hp=>by rw[mP] at hp;cases hp
 | k::ks,p,hp=>by
  rw[mP] at hp
  rcases List.mem_cons.1 hp with rfl | hp
  ·exact Jk h k
  ·exact E7 h ks p hp
end
theorem A3(P:Program)(nm:String)(t:TypeId)(v:AV)(ys:List AV):Ev.cC P (.a (.fn (.method nm) [.iface t v] ys))=(iM P t nm).map λ_=>.a (.fn (.method nm) [.iface t v] ys):=rfl
def oz(u:iu):SV:=.iface 174 (.ag (dJ u))
theorem CS:iM Tryz.prog 174 "bogie/formula.number"=some 231:=by kernel_rfl
theorem CR:iM Tryz.prog 174 "bogie/formula.letter"=some 230:=by kernel_rfl
theorem vt:iM Tryz.prog 174 "bogie/formula.apply"=some 228:=by kernel_rfl
theorem tn:iM Tryz.prog 174 "bogie/formula.choose"=some 229:=by kernel_rfl
set_option maxHeartbeats 2000000 in
theorem Br(u:iu)(hu:u.ok):∀(d:Nat) (f:bE),SizeOf.sizeOf f<d->gm f->fJ f=true->PC Tryz.prog 92 [oz u,.ag (aI f)] (·=nj (l7 u f))
 | 0,f,hd,_,_=>absurd hd (Nat.not_lt_zero _)
 | d+1,.mk op n kids,hd,hf,hr=>by
  cases hf with
  | mk hlen hks=>
  have hkd:∀k∈kids,SizeOf.sizeOf k<d:=λk hk=>by
   have h1:=List.sizeOf_lt_of_mem hk
   have h2:SizeOf.sizeOf (bE.mk op n kids)=1+SizeOf.sizeOf op+SizeOf.sizeOf n+SizeOf.sizeOf kids:=by simp
   omega
  rw[dr,l7];refine pB 67 Tryz.func92 ?_;refine aE (n2 @oz.eq_1 @dJ.eq_1) ?_
  (repeat refine ai.seq ?_)
  refine ai.block ?_;cases h1:decide (op=1);rotate_left
  ·refine aE h1 ?_;refine zY ?_;rw[if_pos (of_decide_eq_true h1)];refine zC ?_;refine zK (CU u n) ?_ (hc:=Gh @CS);refine cS (n2 @nj.eq_1 @kJ.eq_1) ?_;refine zE ?_;exact zO [.cell 4 72]
  rw[if_neg (of_decide_eq_false h1)];refine aE h1 ?_;refine zN ?_;cases h2:decide (op<=4);rotate_left
  ·refine aE h2 ?_;refine zY ?_;rw[if_pos (of_decide_eq_true h2)];refine zC ?_;refine zK (CP u op) ?_ (hc:=Gh @CR);refine cS (n2 @nj.eq_1 @kJ.eq_1) ?_;refine zE ?_;exact zO [.cell 4 72]
  rw[if_neg (of_decide_eq_false h2)];refine aE h2 ?_;refine zN ?_;rw[fJ,Bool.and_eq_true,Bool.and_eq_true,Bool.and_eq_true,Bool.and_eq_true] at hr;obtain⟨⟨hr1,hr2,_⟩,hr3⟩:=hr;have hop1:=of_decide_eq_true hr1.1;have hop2:=of_decide_eq_true hr1.2;have hkl:=of_decide_eq_true hr2;have h1':=of_decide_eq_false h1;have h2':=of_decide_eq_false h2;rw[rq] at hr3;have n0:c9 (.int .i64 0)=some 0:=rfl;have n1:c9 (.int .i64 1)=some 1:=rfl;have n2:c9 (.int .i64 2)=some 2:=rfl
  have hkid:∀{j:Nat} {x:bE},kids[j]?=some x->PC Tryz.prog 92 [oz u,.ag (aI x)] (·=nj (l7 u x)):=λ{j x} hx=>by
   have hxm:=List.mem_of_getElem? hx;exact Br u hu d x (hkd x hxm) (hks x hxm) (List.all_eq_true.1 hr3 x hxm)
  have hat:∀{j:Nat} {x:bE},kids[j]?=some x->((kids.flatMap aI).drop (j*3)).take 3=aI x:=λhx=>aH (e:=3) (enc:=aI) eM hx;cases h3:decide (op=11)
  ·have h3':=of_decide_eq_false h3
   have hw:kids.length=2:=by rw[hkl,pZ,if_neg h3',if_pos (by omega)]
   obtain⟨x0,x1,hk2⟩:∃x0 x1,kids=[x0,x1]:=by
    match kids,hw with
    | [a,b],_=>exact⟨a,b,rfl⟩
   have e0:kids[0]?=some x0:=by rw[hk2];rfl
   have e1:kids[1]?=some x1:=by rw[hk2];rfl
   have hrun:mP u kids=[l7 u x0,l7 u x1]:=by rw[hk2,mP,mP,mP]
   rw[hrun];simp only[if_neg h3'];have hb:=Jk hu x1;have a0:=hat e0;have a1:=hat e1;have k0:=hkid e0;have k1:=hkid e1
   have t0:(kids.flatMap aI).take 3=aI x0:=by rwa [Nat.zero_mul,List.drop_zero] at a0
   rw[oz,dJ] at k0 k1;generalize l7 u x0=r0 at k0 ⊢;generalize l7 u x1=r1 at k1 hb ⊢;obtain⟨o0,m0,s0⟩:=x0;obtain⟨o1,m1,s1⟩:=x1;rw[dr] at t0 a1 k0 k1
   have l0:0<kids.length:=by omega
   have l1:1<kids.length:=by omega
   refine aE h3 ?_;refine zN ?_;refine zs ?_;refine oW [0,0,2,0,0,16,48,112,248,0,0,1024,3072,7168,16376,1,32769,98305,262143,524287] ?_;refine nL (n3 n0 l0 t0) ?_;refine SD.k (by rfl) rfl rfl (by rfl) rfl rfl zc (k0) (zw) rfl ?_;refine nL (n3 n1 l1 a1) ?_;refine SD.k (by rfl) rfl rfl (by rfl) rfl rfl zc (k1) (zw) rfl ?_;refine nL (n3 @db.eq_28 @A3 @vt) ?_;refine SD.k (by rfl) rfl rfl (by rfl) rfl rfl (Gh @vt) (Fi u op r0 r1 hb) (zw) rfl ?_;refine SD.e (by rfl) rfl (by rfl) rfl rfl (by rfl) zl ?_;refine zM ?_;refine zE ?_;exact zO [.cell 4 72]
  ·have h3':=of_decide_eq_true h3
   have hw:kids.length=3:=by rw[hkl,pZ,if_pos h3']
   obtain⟨x0,x1,x2,hk2⟩:∃x0 x1 x2,kids=[x0,x1,x2]:=by
    match kids,hw with
    | [a,b,c],_=>exact⟨a,b,c,rfl⟩
   have e0:kids[0]?=some x0:=by rw[hk2];rfl
   have e1:kids[1]?=some x1:=by rw[hk2];rfl
   have e2:kids[2]?=some x2:=by rw[hk2];rfl
   have hrun:mP u kids=[l7 u x0,l7 u x1,l7 u x2]:=by rw[hk2,mP,mP,mP,mP]
   rw[hrun];simp only[if_pos h3'];have a0:=hat e0;have a1:=hat e1;have a2:=hat e2;have k0:=hkid e0;have k1:=hkid e1;have k2:=hkid e2
   have t0:(kids.flatMap aI).take 3=aI x0:=by rwa [Nat.zero_mul,List.drop_zero] at a0
   rw[oz,dJ] at k0 k1 k2;generalize l7 u x0=r0 at k0 ⊢;generalize l7 u x1=r1 at k1 ⊢;generalize l7 u x2=r2 at k2 ⊢;obtain⟨o0,m0,s0⟩:=x0;obtain⟨o1,m1,s1⟩:=x1;obtain⟨o2,m2,s2⟩:=x2;rw[dr] at t0 a1 a2 k0 k1 k2
   have l0:0<kids.length:=by omega
   have l1:1<kids.length:=by omega
   have l2:2<kids.length:=by omega
   refine aE h3 ?_;refine zY ?_;refine zs ?_;refine oW [0,0,0,4,12,28,62,0,0,256,768,1792,4094,0,0,16384,49152,114688,262142,1,524289,1572865,4194303,8388607] ?_;refine nL (n3 n0 l0 t0) ?_;refine SD.k (by rfl) rfl rfl (by rfl) rfl rfl zc (k0) (zw) rfl ?_;refine nL (n3 n1 l1 a1) ?_;refine SD.k (by rfl) rfl rfl (by rfl) rfl rfl zc (k1) (zw) rfl ?_;refine nL (n3 @n2 l2 a2) ?_;refine SD.k (by rfl) rfl rfl (by rfl) rfl rfl zc (k2) (zw) rfl ?_;refine nL (n3 @db.eq_28 @A3 @tn) ?_;refine SD.k (by rfl) rfl rfl (by rfl) rfl rfl (Gh @tn) (Cx u r0 r1 r2) (zw) rfl ?_;refine SD.e (by rfl) rfl (by rfl) rfl rfl (by rfl) zl ?_;refine zM ?_;refine zE ?_;exact zO [.cell 4 72]
theorem MY(u:iu)(hu:u.ok)(f:bE)(hf:gm f)(hr:fJ f=true):PC Tryz.prog 92 [oz u,.ag (aI f)] (·=nj (l7 u f)):=Br u hu _ f (Nat.lt_succ_self _) hf hr
end Go.Proofs
