/- Lemmas of this claim, each with its conditions. -/
import Derived.Test.YtchdmmkclcnmnaaGreatA28
import Derived.Test.YtchdmmkclcnmnaaGreatA19
import Derived.Test.YtchdmmkclcnmnaaGreatA18
import Derived.Test.YtchdmmkclcnmnaaGreatA17
set_option linter.all false
open List (take_zero length_nil)
open List renaming mem_of_getElem? -> aa, getElem?_eq_getElem -> ac, replicate -> af, take_length -> aj, getElem?_zip_eq_some -> ap, length_append -> ax, cons_append -> ay, length_take -> aR, getElem?_eq_none -> aS, nil_append -> a0, foldl_append -> a3, length_cons -> a5, countP_nil -> a6, length_zip -> a7
open Nat renaming reduceEqDiff -> ad, le_refl -> a1, mul_one -> a2, reduceAdd -> a8, min_self -> a9
open And renaming intro -> al
open Bool renaming and_eq_true -> a4
namespace Go.Proofs
open Go.Ev
set_option maxRecDepth 100000
def Hd(g:FuncId):PC Tryz.prog 246 [.sl 0 15 [],ab 0,ab 0,.fn g [] []] (·=.bE []):=by
 refine pB 53 Tryz.func246 ?_;refine zV ?_
 (repeat refine ar.seq ?_)
 refine ar.block (ar.loop (λm st=>m=0/\st=⟨[(2,ab 0),(3,.fn g [] []),(8,ab 1)],53,[],[]⟩) 0 zH ⟨rfl,rfl⟩ (by rintro m st ⟨_,rfl⟩;rfl) ?_);rintro m st ⟨rfl,rfl⟩;refine aC (show decide ((1:Int)<0)=false from rfl) ?_;refine dZ ?_;simp only[fV,dS,cE,cq,if_true];exact zO []
def EM(g:FuncId):PC Tryz.prog 244 [.sl 0 15 [],ab 0,.fn g [] []] (·=.bE []):=by
 refine pB 63 Tryz.func244 ?_;refine lC ?_
 (repeat refine ar.seq ?_)
 refine ar.block (ar.loop (λm st=>m=0/\st=⟨[(0,.sl 0 15 []),(1,ab 0),(2,.fn g [] []),(6,ab 20),(7,ab 0),(8,ab 20)],63,[],[]⟩) 0 zH ⟨rfl,rfl⟩ (by rintro m st ⟨_,rfl⟩;rfl) ?_);rintro m st ⟨rfl,rfl⟩;refine aC (show decide ((20:Int)<=0)=false from rfl) ?_;refine dZ ?_
 (try change ar _ _ _ _ _)
 refine zC ?_;refine zK (Hd g) ?_;refine zR ?_
 (repeat refine ar.seq ?_)
 refine ar.block (ar.loop (λm st=>m=0/\st=⟨[(1,ab 0),(6,ab 20)],63,[],[]⟩) 0 zH ⟨rfl,rfl⟩ (by rintro m st ⟨_,rfl⟩;rfl) ?_);rintro m st ⟨rfl,rfl⟩;refine aC (show decide ((20:Int)<0)=false from rfl) ?_;refine dZ ?_;simp only[fV,dS,cE,cq,if_true];exact zO []
def AR(g:FuncId):PC Tryz.prog 235 [.sl 0 15 [],.fn g [] []] (·=.bE []):=by
 refine pB 9 Tryz.func235 ?_;refine zC ?_;refine zK (EM g) ?_;refine zR ?_;exact zO []
def Ei(c:List aP)(s:List aH)(e:bJ)(hc:jD c)(hlen:s.length<=100000)(hs:∀p∈s,gR p)(he:p8 e):SC Tryz.prog 237 [.ag (aF e),.ip [ak 3 c ao],.ptr 0 0] [.cells [ak 14 s ah]] []
 (λr S'=>r=ab (aV c s e).2/\S'=[.cells [ak 14 (aV c s e).1 ah]]):=by
 refine GU 13 Tryz.func237 ?_;have hap:=Av c s e hc hlen hs he;unfold kH at hap;generalize aV c s e=q at hap ⊢;rw[dx] at hap ⊢;refine kD ?_;refine zK hap ?_ (hfl:=.inr (bp.refl rfl));refine zR ?_;refine zV ?_;refine ar.fg (st':=⟨[(4,ab q.2),(1000000,.ptr 0 0)],13,[.cells [ak 14 q.1 ah]],[]⟩) zH ?_;refine zE ?_;exact zP [.tmp 4]
def ly(day:Int)(i:Nat)(p:bu×Int):List (bJ×Int):=if p.2<0 then [] else match p.1.opts[p.2.toNat]? with
 | some e=>if e.day<day then [(e,(i:Int))] else []
 | none=>[]
def cB(day:Int):Nat->List (bu×Int)->List (bJ×Int)
 | _,[]=>[]
 | i,p::l=>ly day i p++cB day (i+1) l
def wD(day:Int):∀(l:List (bu×Int)) (i:Nat) (p:bu×Int),cB day i (l++[p])=cB day i l++ly day (i+l.length) p
 | [],i,p=>by simp[cB]
 | a::l,i,p=>by
  rw[ay,cB,cB,wD day l (i+1) p,List.append_assoc,a5]
  congr 3;omega
def OI(day:Int)(i:Nat)(p:bu×Int):(ly day i p).length<=1:=by
 unfold ly;split
 ·simp
 ·split
  ·split<;>simp
  ·simp
def sI(day:Int):∀(l:List (bu×Int)) (i:Nat),(cB day i l).length<=l.length
 | [],i=>by simp[cB]
 | p::l,i=>by
  have h1:=OI day i p;have h2:=sI day l (i+1);rw[cB,ax,a5];omega
def Mq{day:Int}{i:Nat}{p:bu×Int}{x:bJ×Int}(h:x∈ly day i p):x.1∈p.1.opts:=by
 unfold ly at h;split at h
 ·cases h
 ·split at h
  ·rename_i e he;split at h
   ·rw[List.mem_singleton.1 h];exact aa he
   ·cases h
  ·cases h
def wG{day:Int}:∀{l:List (bu×Int)} {i:Nat} {x:bJ×Int},x∈cB day i l->∃p∈l,x.1∈p.1.opts
 | [],i,x,h=>by simp[cB] at h
 | p::l,i,x,h=>by
  rw[cB] at h
  rcases List.mem_append.1 h with h | h
  ·exact⟨p,List.mem_cons_self,Mq h⟩
  ·obtain⟨q,h1,h2⟩:=wG h;exact⟨q,List.mem_cons_of_mem _ h1,h2⟩
def pM(l:List (bJ×Int)):List (bJ×Int):=qx (sF Kk) l
def vS(c:List aP):List aH->List (bJ×Int)->Int×Int
 | _,[]=>(-1,0)
 | s,p::r=>if (aV c s p.1).2=0 then vS c (aV c s p.1).1 r else (p.2,(aV c s p.1).2)
def lX(c:List aP)(l:List bu)(ch:List Int)(day:Int):Int×Int:=vS c [] (pM (cB day 0 (l.zip ch)))
set_option maxHeartbeats 4000000 in
def wR(c:List aP)(l:List bu)(ch:List Int)(day:Int)(hc:jD c)(hl:∀r∈l,ea r)(hlen:l.length<20)(heq:l.length=ch.length):PC Tryz.prog 210 [.ag [ak 3 c ao],ak 2 l aD,ak 1 ch (aA ab),ab day] (·=.bE [ab (lX c l ch day).1,ab (lX c l ch day).2]):=by
 refine pB 79 Tryz.func210 ?_;refine zV ?_;refine ar.fg (Fg.freeze (f':=[(1,ak 2 l aD),(2,ak 1 ch (aA ab)),(3,ab day),(4,.ip [ak 3 c ao])]) 0 rfl (λh=>by cases h) (rK @ak.eq_1)) ?_
 (try change ar _ _ _ _ _)
 refine lC ?_
 have hz:∀{k:Nat} {r:bu} {n:Int},l[k]?=some r->ch[k]?=some n->(l.zip ch)[k]?=some (r,n):=λh1 h2=>by
  rw[ap];exact⟨h1,h2⟩
 have hzl:(l.zip ch).length=l.length:=by rw[a7,<-heq,a9]
 (repeat refine ar.seq ?_)
 refine ar.mono (Q:=λe st=>e=.normal/\Fg st ⟨[(4,.ip [ak 3 c ao]),(10,bn 2 15 (cB day 0 (l.zip ch)).length)],79,qF 2 (cB day 0 (l.zip ch)) bX,[]⟩) ?_ ?_
 ·refine zs ?_;refine zL l (λk=>True) (λk=>[(2,ak 1 ch (aA ab)),(3,ab day),(4,.ip [ak 3 c ao]),(10,bn 2 15 (cB day 0 ((l.zip ch).take k)).length),(19,ak 2 l aD),(20,ab l.length),(21,ab k)]) (λk=>qF 2 (cB day 0 ((l.zip ch).take k)) bX) (bL (n5 @take_zero.{0} @cB.eq_1 @length_nil.{0} @eH @mc)) zp ?_;intro k hk hall;refine zT l k ?_ ?_;rintro rfl;rotate_left;intro r hx hlt;rotate_left
  ·refine dZ ?_;rw[<-hzl,aj];by_cases h0:cB day 0 (l.zip ch)=[]
   ·rw[h0];exact⟨rfl,(bL (n3 @mc @eH @length_nil.{0}))⟩
   ·rw[ji h0];exact⟨rfl,(bL qK)⟩
  have hrk:ea r:=hl r (aa hx);have hr1:=hrk.len;obtain⟨n,hn⟩:∃n,ch[k]?=some n:=⟨ch[k],ac (by omega)⟩;have hzk:=hz hx hn;have ht:=br hzk
  have hlc2:k<ch.length:=by omega
  have hol:(cB day 0 ((l.zip ch).take k)).length<=k:=by
   have:=sI day ((l.zip ch).take k) 0;rw[aR] at this;omega
  have hfm:cB day 0 ((l.zip ch).take (k+1))=cB day 0 ((l.zip ch).take k)++ly day k (r,n):=by
   rw[ht,wD,aR,hzl,Nat.min_eq_left (by omega),Nat.zero_add]
  generalize hO:cB day 0 ((l.zip ch).take k)=out at hol hfm;refine eQ ?_;have hcl:=aJ gA out;have hkc:=λo=>aZ eW o out
  have hlen6:l.length<=1000000:=by omega
  have hg1:∀i:Nat,decide (0<=(i:Int))=true:=λi=>by simp
  by_cases hk0:out=[]
  ·rw[show qF 2 out bX=[] by rw[hk0];rfl,show bn 2 15 out.length=cN by rw[hk0];rfl];refine aC (n3 hlt (aG (e:=2) (enc:=aD) (λ_=>rfl) hx) @aD.eq_1) ?_;refine aC (n3 hlc2 (aG (e:=1) (enc:=aA ab) (λ_=>rfl) hn) @aA.eq_1) ?_
   have fin:ly day k (r,n)=[]->bn 2 15 (cB day 0 ((l.zip ch).take (k+1))).length=cN/\qF 2 (cB day 0 ((l.zip ch).take (k+1))) bX=[]:=λh=>by rw[hfm,h,hk0];exact⟨rfl,rfl⟩
   cases g1:decide (0<=n)
   ·have g1':=wt g1;obtain⟨f1,f2⟩:=fin (by unfold ly;rw[ul (by show n<0;omega)]);refine aC g1 ?_;refine zN ?_;refine aC (zi hlt hlen6) ?_;refine zX hlt (bL (n2 f1 f2)) trivial
   obtain⟨i,rfl⟩:∃i:Nat,n=(i:Int):=⟨n.toNat,by have:=ww g1;omega⟩;by_cases g2:i<r.opts.length;rotate_left
   ·obtain⟨f1,f2⟩:=fin (by unfold ly;rw[un (by show ¬(i:Int)<0;omega)];show(match r.opts[i]? with | some e=>_ | none=>_)=_;rw[aS (by omega)]);refine aC (n2 g1 (show decide ((i:Int)<(r.opts.length:Int))=false by simp only[wp];omega)) ?_;refine zN ?_;refine aC (zi hlt hlen6) ?_;refine zX hlt (bL (n2 f1 f2)) trivial
   obtain⟨e,hei⟩:∃e,r.opts[i]?=some e:=⟨r.opts[i],ac g2⟩
   have hpk:ly day k (r,(i:Int))=if e.day<day then [(e,(k:Int))] else []:=by
    unfold ly;rw[un (by show ¬(i:Int)<0;omega)];show(match r.opts[i]? with | some e=>_ | none=>_)=_;rw[hei]
   cases g3:decide (e.day<day)
   ·rw[un (wt g3)] at hpk;obtain⟨f1,f2⟩:=fin hpk;refine aC (n6 g1 g2 (show decide ((i:Int)<(r.opts.length:Int))=true by simp only[wr];omega) (aG (e:=14) (enc:=aF) (λ_=>rfl) hei) @aF.eq_1 g3) ?_;refine zN ?_;refine aC (zi hlt hlen6) ?_;refine zX hlt (bL (n2 f1 f2)) trivial
   ·rw[ul (ww g3)] at hpk;rw[hpk,hk0,a0] at hfm
    have hE3:bn 2 15 (cB day 0 ((l.zip ch).take (k+1))).length=.buf 2 1 15 none:=by rw[hfm];rfl
    have hE4:qF 2 (cB day 0 ((l.zip ch).take (k+1))) bX=[.gone,.gone,.cells (bX (e,(k:Int)))]:=by rw[hfm];rfl
    refine aC (n6 g1 g2 (show decide ((i:Int)<(r.opts.length:Int))=true by simp only[wr];omega) (aG (e:=14) (enc:=aF) (λ_=>rfl) hei) @aF.eq_1 g3) ?_;refine zY ?_;refine aC (n3 g2 (aG (e:=14) (enc:=aF) (λ_=>rfl) hei) @aF.eq_1) ?_;refine aC (zi hlt hlen6) ?_;refine zX hlt (bL (n3 hE3 hE4 @bX.eq_1)) trivial
  ·have hk1:¬out.length=0:=λh=>hk0 (List.length_eq_zero_iff.1 h);rw[ji hk0,bV hk1];refine aC (n5 hlt (aG (e:=2) (enc:=aD) (λ_=>rfl) hx) @aD.eq_1 qK hkc) ?_;refine aC (n4 hkc hlc2 (aG (e:=1) (enc:=aA ab) (λ_=>rfl) hn) @aA.eq_1) ?_
   have fin:ly day k (r,n)=[]->bn 2 15 (cB day 0 ((l.zip ch).take (k+1))).length=bn 2 15 out.length/\qF 2 (cB day 0 ((l.zip ch).take (k+1))) bX=qF 2 out bX:=λh=>by rw[hfm,h,List.append_nil];exact⟨rfl,rfl⟩
   cases g1:decide (0<=n)
   ·have g1':=wt g1;obtain⟨f1,f2⟩:=fin (by unfold ly;rw[ul (by show n<0;omega)]);refine aC (n2 hkc g1) ?_;refine zN ?_;refine zs ?_;refine ar.r0 (by rfl) (gQ (p9 (pw hlt hlen6 (by decide)))) ?_;refine⟨l.length-(k+1),_,by omega,(Fg.less (by (simp only[bP,bg,dr,↓reduceIte,ad,ak,f1,f2,bV hk1,ji hk0,af])<;>(repeat' apply al)<;>first | rfl | trivial) (by (simp only[bP,bg,or_true,true_or,ak,f1,f2,bV hk1,ji hk0,af])<;>(repeat' apply al)<;>first | exact .inr rfl | exact .inl rfl | trivial)),k+1,by omega,rfl,trivial,rfl⟩
   obtain⟨i,rfl⟩:∃i:Nat,n=(i:Int):=⟨n.toNat,by have:=ww g1;omega⟩;by_cases g2:i<r.opts.length;rotate_left
   ·obtain⟨f1,f2⟩:=fin (by unfold ly;rw[un (by show ¬(i:Int)<0;omega)];show(match r.opts[i]? with | some e=>_ | none=>_)=_;rw[aS (by omega)]);refine aC (n3 hkc g1 (show decide ((i:Int)<(r.opts.length:Int))=false by simp only[wp];omega)) ?_;refine zN ?_;refine zs ?_;refine ar.r0 (by rfl) (gQ (p9 (pw hlt hlen6 (by decide)))) ?_;refine⟨l.length-(k+1),_,by omega,(Fg.less (by (simp only[bP,bg,dr,↓reduceIte,ad,ak,f1,f2,bV hk1,ji hk0,af])<;>(repeat' apply al)<;>first | rfl | trivial) (by (simp only[bP,bg,or_true,true_or,ak,f1,f2,bV hk1,ji hk0,af])<;>(repeat' apply al)<;>first | exact .inr rfl | exact .inl rfl | trivial)),k+1,by omega,rfl,trivial,rfl⟩
   obtain⟨e,hei⟩:∃e,r.opts[i]?=some e:=⟨r.opts[i],ac g2⟩
   have hpk:ly day k (r,(i:Int))=if e.day<day then [(e,(k:Int))] else []:=by
    unfold ly;rw[un (by show ¬(i:Int)<0;omega)];show(match r.opts[i]? with | some e=>_ | none=>_)=_;rw[hei]
   cases g3:decide (e.day<day)
   ·rw[un (wt g3)] at hpk;obtain⟨f1,f2⟩:=fin hpk;refine aC (n7 hkc g1 g2 (show decide ((i:Int)<(r.opts.length:Int))=true by simp only[wr];omega) (aG (e:=14) (enc:=aF) (λ_=>rfl) hei) @aF.eq_1 g3) ?_;refine zN ?_;refine zs ?_;refine ar.r0 (by rfl) (gQ (p9 (pw hlt hlen6 (by decide)))) ?_;refine⟨l.length-(k+1),_,by omega,(Fg.less (by (simp only[bP,bg,dr,↓reduceIte,ad,ak,f1,f2,bV hk1,ji hk0,af])<;>(repeat' apply al)<;>first | rfl | trivial) (by (simp only[bP,bg,or_true,true_or,ak,f1,f2,bV hk1,ji hk0,af])<;>(repeat' apply al)<;>first | exact .inr rfl | exact .inl rfl | trivial)),k+1,by omega,rfl,trivial,rfl⟩
   ·rw[ul (ww g3)] at hpk;rw[hpk] at hfm;have happ:=eh gA eW 2 out (e,(k:Int));rw[oD] at happ
    have hE3:bn 2 15 (cB day 0 ((l.zip ch).take (k+1))).length=.buf 2 (out.length+1) 15 none:=by rw[hfm,ax];rfl
    have hE4:qF 2 (cB day 0 ((l.zip ch).take (k+1))) bX=[.gone,.gone,.cells ((out++[(e,(k:Int))]).flatMap bX)]:=by rw[hfm,mQ];rfl
    refine aC (n7 hkc g1 g2 (show decide ((i:Int)<(r.opts.length:Int))=true by simp only[wr];omega) (aG (e:=14) (enc:=aF) (λ_=>rfl) hei) @aF.eq_1 g3) ?_;refine zY ?_;refine aC (n8 g2 (aG (e:=14) (enc:=aF) (λ_=>rfl) hei) @aF.eq_1 hcl hkc (show out.length<=1000000 by omega) @a1 happ) ?_;refine aC (zi hlt hlen6) ?_;refine zX hlt (bL (n2 hE3 hE4)) trivial
 rintro e st ⟨rfl,hfg⟩;refine ar.fg hfg ?_;clear hfg
 (try change ar _ _ _ _ _)
 have hal:(cB day 0 (l.zip ch)).length<20:=Nat.lt_of_le_of_lt (sI day _ 0) (by omega)
 have hmem:∀x∈cB day 0 (l.zip ch),p8 x.1:=by
  intro x hx;obtain⟨p,h1,h2⟩:=wG hx;exact(hl p.1 (List.of_mem_zip h1).1).ev _ h2
 unfold lX;generalize cB day 0 (l.zip ch)=all at hal hmem ⊢;have hmem2:∀x∈pM all,p8 x.1:=λx hx=>hmem x ((B5 _ _).mem_iff.1 hx);have hsl:(pM all).length=all.length:=yS _ _
 (repeat refine ar.seq ?_)
 refine ar.mono (Q:=λe st=>e=.normal/\Fg st ⟨[(4,.ip [ak 3 c ao]),(10,ak 15 (pM all) bX)],79,[],[]⟩) ?_ ?_
 ·by_cases h0:all=[]
  ·subst h0;rw[mc,show bn 2 15 ([]:List (bJ×Int)).length=cN from rfl];refine zC ?_;refine zK (AR 236) ?_ (hwk:=bp.cons (.nil _) (.cons (.fn .nil .nil) .nil));refine zR ?_;exact⟨rfl,Fg.trans (Fg.wk (f':=[(4,.ip [ak 3 c ao]),(10,ak 15 (pM []) bX)]) ⟨.inl rfl,.inr (.nil _),trivial⟩) zH⟩
  ·have hk1:¬all.length=0:=λh=>h0 (List.length_eq_zero_iff.1 h);rw[ji h0,bV hk1];have hrc:∀(g:Nat->Nat) (l:List (bJ×Int)),kh g (l.flatMap bX)=l.flatMap bX:=λg l=>aY (aB eW l);have hbc:∀(B:Nat) (l:List (bJ×Int)),fq B (l.flatMap bX)=true:=λB l=>bC (aB eW l);have hkc:∀(o:Nat) (l:List (bJ×Int)),(l.flatMap bX).map (bf o)=l.flatMap bX:=λo l=>aZ eW o l;have hst:=BA 236 Kk Eh none all hal;rw[show qx (sF Kk) all=pM all from rfl] at hst;refine zC ?_;refine zS [2] (n4 hrc hbc hkc qK) hst ?_ (hc:=J3 qK);refine zR ?_;exact⟨rfl,Fg.trans (Fg.freeze (f':=[(4,.ip [ak 3 c ao]),(10,ak 15 (pM all) bX)]) 2 rfl (λh=>by cases h) ⟨.inl rfl,.inr (by rw[lM 15 (pM all) bX,hsl];exact .buf rfl (by rw[<-hsl,cV gA];exact bp.refl (aB eW _)) (by rw[aJ gA,hsl];exact a1 _)),trivial⟩) zH⟩
 rintro e st ⟨rfl,hfg⟩;refine ar.fg hfg ?_;clear hfg
 (try change ar _ _ _ _ _)
 rw[<-hsl] at hal;generalize pM all=ev at hal hmem2 ⊢
 have hlen1:ev.length<=1000000:=by omega
 refine zV ?_;refine ar.fg (Fg.Ur (S':=[.cells [ak 14 ([]:List aH) ah]]) ⟨.inr ⟨by decide,.inr ⟨_,_,rfl,rfl,.cons (.nil _) .nil⟩⟩,trivial⟩) ?_
 (try change ar _ _ _ _ _)
 refine lC ?_;refine zs ?_;refine MX ev (λk (s:List aH)=>vS c [] ev=vS c s (ev.drop k)/\(∀p∈s,gR p)/\s.length<=k) (λk s=>[(15,.fn 237 [] [.ip [ak 3 c ao],.ptr 0 0]),(63,ak 15 ev bX),(64,ab ev.length),(65,ab k)]) (λk s=>[.cells [ak 14 s ah]]) ([]) zH (by first | exact⟨rfl,by simp,Nat.zero_le _⟩ | trivial | rfl) ?_;intro k s hk hall;refine zT ev k ?_ ?_;rintro rfl;rotate_left;intro p hx hlt;rotate_left
 ·refine dZ ?_;obtain⟨hr,-,-⟩:=hall;rw[List.drop_length] at hr;refine zV ?_;exact iA [.tmp 8,.tmp 9] (hq:=by rw[hr];rfl)
 obtain⟨hr,hps,hsk⟩:=hall;rw[ft hx] at hr;have hpo:=hmem2 p (aa hx);have hfo:=Ei c s p.1 hc (by omega) hps hpo;obtain⟨q1,q2,q3,q4⟩:=vm (c:=c) hps hpo
 have hr2:vS c s (p::ev.drop (k+1))=if (aV c s p.1).2=0 then vS c (aV c s p.1).1 (ev.drop (k+1)) else (p.2,(aV c s p.1).2):=rfl
 rw[hr2] at hr;clear hr2;generalize aV c s p.1=q at hfo q1 q2 q3 q4 hr;rw[dx] at hfo;refine eQ ?_;refine aC (n3 hlt (aG (e:=15) (enc:=bX) (λ_=>rfl) hx) @oD) ?_;refine zC ?_;refine zS [0] trivial hfo ?_;refine zR ?_;by_cases he:q.2=0
 ·rw[ul he] at hr;refine aC (show decide (q.2=0)=true from wd he) ?_;refine zN ?_;refine aC (zi hlt hlen1) ?_;refine H3 hlt (q.1) zH (⟨hr,q1,by omega⟩)
 ·rw[un he] at hr;refine aC (show decide (q.2=0)=false from ut he) ?_;refine cL ?_;exact iA [.tmp 8,.tmp 9] (hq:=by rw[hr])
def pn(c:List aP)(l:List bu)(ch:List Int):Int×Int:=if lJ c l ch 0=true then lX c l ch 40001 else (-1,1)
def Px(c:List aP)(l:List bu)(ch:List Int):Bool:=decide ((pn c l ch).2=0)
def vq{c:List aP}{l:List bu}{ch:List Int}{least:Int}(h:lJ c l ch least=true):l.length=ch.length:=by
 unfold lJ at h;rw[a4,a4] at h;exact ww h.2.1
def Ji(c:List aP)(l:List bu)(ch:List Int)(hc:jD c)(hl:∀r∈l,ea r)(hlen:l.length<20)(hlc:ch.length<=1000000):PC Tryz.prog 211 [.ag [ak 3 c ao],ak 2 l aD,ak 1 ch (aA ab)] (·=.bE [ab (pn c l ch).1,ab (pn c l ch).2]):=by
 refine pB 19 Tryz.func211 ?_;refine kD ?_;refine zK (AD c l ch 0 hc hl (by omega) hlc) ?_;cases hg:lJ c l ch 0
 ·refine zR ?_;refine cL ?_;exact iA [.tmp 6,.tmp 7] (hq:=by rw[show pn c l ch=(-1,1) by rw[pn,hg];rfl])
 refine zR ?_;refine zN ?_;rw[show pn c l ch=lX c l ch 40001 by rw[pn,hg];rfl];have hfo:=wR c l ch 40001 hc hl hlen (vq hg);generalize lX c l ch 40001=q at hfo ⊢;refine zC ?_;refine zK hfo ?_;refine zR ?_;exact iA [.tmp 6,.tmp 7]
def CJ(c:List aP)(l:List bu)(ch:List Int)(hc:jD c)(hl:∀r∈l,ea r)(hlen:l.length<20)(hlc:ch.length<=1000000):PC Tryz.prog 148 [.ag [ak 3 c ao],ak 2 l aD,ak 1 ch (aA ab)] (·=az (Px c l ch)):=by
 refine pB 18 Tryz.func148 ?_;have hfa:=Ji c l ch hc hl hlen hlc;unfold Px;generalize pn c l ch=q at hfa ⊢;refine kD ?_;refine zK hfa ?_;refine zR ?_;refine zV ?_;exact zo [.tmp 6]
def MG(l:List bu)(ch:List Int):PC Tryz.prog 209 [ak 2 l aD,ak 1 ch (aA ab)] (·=.fn 234 [] [.ip [ak 2 l aD],.ip [ak 1 ch (aA ab)]]):=by
 refine pB 6 Tryz.func209 ?_;refine zV ?_;refine ar.fg (Fg.freeze (f':=[(2,.ip [ak 2 l aD]),(3,.ptr 1 0)]) 0 rfl (λh=>by cases h) (rK @ak.eq_1)) ?_;refine ar.fg (Fg.freeze (f':=[(2,.ip [ak 2 l aD]),(3,.ip [ak 1 ch (aA ab)])]) 1 rfl (λh=>by cases h) (rK @ak.eq_1)) ?_
 (try change ar _ _ _ _ _)
 refine zV ?_;exact zo [.tmp 4]
def jJ(n:Int)(m:Int)(e:bJ):Int:=if n<0 then eO m e.day else m
def r4(m:Int)(l:List (bu×Int)):Int:=l.foldl (λm p=>p.1.opts.foldl (jJ p.2) m) m
def MY(c:gr)(f1:Fm):Prop:=∀(ro:Option Nat) (f0:Fm) (day m:Int) (X:List SO) (K:Ex->List SO->Fm->Prop),K .normal (.loop c .ready none f1::.cells [ab (eO m day)]::X) f0->Ui Tryz.prog ro c 0 [ab day] (.loop c .ready none f1::.cells [ab m]::X) f0 K
set_option maxHeartbeats 4000000 in
def Jf(c:gr)(f1:Fm)(hb:MY c f1)(hps:c.ps.toList.length=1)(hlow:xr c.n f1=true)(hn1:c.n<=1000000)(hpar:c.ps.toList.all (λk=>Nat.blt k c.n)=true)(hkf:∀o,2<=o->dJ o f1=f1)(l:List bu)(ch:List Int)(m0:Int)(hl:∀r∈l,ea r)(hlen:l.length<=1000000)(heq:l.length=ch.length):
 SC Tryz.prog 234 [.a (.fn (.yield c.id) [] []),.ip [ak 2 l aD],.ip [ak 1 ch (aA ab)]] [.loop c .ready none f1,.cells [ab m0]] [] (λr S'=>r=.bE []/\S'=[.loop c .ready none f1,.cells [ab (r4 m0 (l.zip ch))]]):=by
 refine Sm 36 Tryz.func234 ?_;have hkA:f1.map (λp=>(p.1,bif Ev.names 2 p.2 then SV.any else p.2))=f1:=hkf 2 (a1 _);have hkB:f1.map (λp=>(p.1,bif Ev.names 3 p.2 then SV.any else p.2))=f1:=hkf 3 (by decide);refine zV ?_
 have hz:∀{k:Nat} {r:bu} {n:Int},l[k]?=some r->ch[k]?=some n->(l.zip ch)[k]?=some (r,n):=λh1 h2=>by
  rw[ap];exact⟨h1,h2⟩
 have hzl:(l.zip ch).length=l.length:=by rw[a7,<-heq,a9]
 refine zs ?_;refine zL l (λk=>True) (λk=>[(0,.a (.fn (.yield c.id) [] [])),(2,.ip [ak 1 ch (aA ab)]),(8,ak 2 l aD),(9,ab l.length),(10,ab k),(1000000,.ptr 0 0),(1000001,.ptr 1 0)]) (λk=>[.loop c .ready none f1,.cells [ab (r4 m0 ((l.zip ch).take k))]]) (bL (n3 @take_zero.{0} @r4.eq_1 @List.foldl_nil.{0,0})) zp ?_;intro k hk hall;refine zT l k ?_ ?_;rintro rfl;rotate_left;intro r hx hlt;rotate_left
 ·refine dZ ?_;rw[<-hzl,aj];simp only[fV,dS,cE,cq,if_true];exact zP []
 have hrk:ea r:=hl r (aa hx);have hr1:=hrk.len;obtain⟨n,hn⟩:∃n,ch[k]?=some n:=⟨ch[k],ac (by omega)⟩;have ht:=br (hz hx hn)
 have hlc2:k<ch.length:=by omega
 have hst:r4 m0 ((l.zip ch).take (k+1))=r.opts.foldl (jJ n) (r4 m0 ((l.zip ch).take k)):=by
  unfold r4;rw[ht,a3];rfl
 generalize r4 m0 ((l.zip ch).take k)=m1 at hst;refine eQ ?_;refine aC (n5 hlt (aG (e:=2) (enc:=aD) (λ_=>rfl) hx) @aD.eq_1 hkA hkB) ?_;refine zV ?_;refine zs ?_;refine zL r.opts (λk2=>True) (λk2=>[(0,.a (.fn (.yield c.id) [] [])),(2,.ip [ak 1 ch (aA ab)]),(4,ab k),(8,ak 2 l aD),(9,ab l.length),(10,ab k),(16,ak 14 r.opts aF),(17,ab r.opts.length),(18,ab k2),(1000000,.ptr 0 0),(1000001,.ptr 1 0)]) (λk2=>[.loop c .ready none f1,.cells [ab ((r.opts.take k2).foldl (jJ n) m1)]]) (bL (n2 @take_zero.{0} @List.foldl_nil.{0,0})) zp ?_;intro k2 hk2 hall2;refine zT r.opts k2 ?_ ?_;rintro rfl;rotate_left;intro e hx2 hlt2;rotate_left
 ·refine dZ ?_;rw[aj];refine aC (zi hlt hlen) ?_;refine zX hlt (bL hst) trivial
 have ht2:=br hx2
 have hst2:(r.opts.take (k2+1)).foldl (jJ n) m1=jJ n ((r.opts.take k2).foldl (jJ n) m1) e:=by rw[ht2,a3];rfl
 generalize (r.opts.take k2).foldl (jJ n) m1=m2 at hst2;refine eQ ?_;refine aC (n5 hlt2 (aG (e:=14) (enc:=aF) (λ_=>rfl) hx2) @aF.eq_1 hkA hkB) ?_;cases g1:decide (n<0)
 ·rw[show jJ n m2 e=m2 by unfold jJ;rw[un (wt g1)]] at hst2;refine aC (n4 hlc2 (aG (e:=1) (enc:=aA ab) (λ_=>rfl) hn) @aA.eq_1 g1) ?_;refine zN ?_;refine aC (zi hlt2 hr1) ?_;refine zX hlt2 (bL hst2) trivial
 ·rw[show jJ n m2 e=eO m2 e.day by unfold jJ;rw[ul (ww g1)]] at hst2;refine gG (n4 hlc2 (aG (e:=1) (enc:=aA ab) (λ_=>rfl) hn) @aA.eq_1 g1) ?_;refine aI.yR (vs:=[ab e.day]) 0 (by rfl) rfl rfl (by rfl) rfl rfl rfl (by rfl) rfl hps hlow hn1 hpar λro'=>hb _ _ _ _ _ _ ?_;refine zR ?_;refine zN ?_;refine aC (zi hlt2 hr1) ?_;refine zX hlt2 (bL hst2) trivial
def vf(c:List aP)(l:List bu)(ch:List Int):Bool:=lJ c l ch (-1)&&!(decide ((lX c l ch (r4 40001 (l.zip ch))).2=0))
set_option maxHeartbeats 4000000 in
def Ef(c:List aP)(l:List bu)(ch:List Int)(hc:jD c)(hl:∀r∈l,ea r)(hlen:l.length<20)(hlc:ch.length<=1000000):PC Tryz.prog 147 [.ag [ak 3 c ao],ak 2 l aD,ak 1 ch (aA ab)] (·=az (vf c l ch)):=by
 refine PC.rV (n:=33) dG Tryz.func147 rfl rfl (by decide) ?_;refine kD ?_;refine zK (AD c l ch (-1) hc hl (by omega) hlc) ?_;cases hg:lJ c l ch (-1)
 ·refine zR ?_;refine cL ?_;refine ar.ret ?_
  (try simp only[fV,dS,cE,cq])
  exact⟨rfl,[az false],az false,by rfl,Wk.refl rfl,by rw[vf,hg];rfl⟩
 have heq:=vq hg;refine zR ?_;refine iK ?_;refine ar.fg (Fg.freeze (f':=[(1,ak 2 l aD),(2,ak 1 ch (aA ab)),(3,.ip [ak 3 c ao]),(7,.ptr 1 0)]) 0 rfl (λh=>by cases h) (rK @ak.eq_1)) ?_
 (try change ar _ _ _ _ _)
 refine zC ?_;refine zK (MG l ch) ?_ (hfl:=.inr (bp.refl rfl));refine zR ?_;refine zB ?_;refine ar.tW (f1:=[(1,ak 2 l aD),(2,ak 1 ch (aA ab)),(3,.ip [ak 3 c ao]),(7,.ptr 1 0)]) dG (by rfl) Tryz.func234 (by rfl) Tn ?_;rintro N lc hid hn hps ha hb
 have hrd:MY lc [(1,ak 2 l aD),(2,ak 1 ch (aA ab)),(3,.ip [ak 3 c ao]),(7,.ptr 1 0)]:=by
  intro ro f0 day m X K hK pend f1 hS;cases hS;rw[ha,hps,hn];change ar _ _ _ ⟨(19,ab day)::(1,ak 2 l aD)::(2,ak 1 ch (aA ab))::(3,.ip [ak 3 c ao])::(7,.ptr 1 0)::Ld laid f0,33,_,[]⟩ _;refine zV ?_;refine⟨rfl,none,[(1,ak 2 l aD),(2,ak 1 ch (aA ab)),(3,.ip [ak 3 c ao]),(7,.ptr 1 0)],rfl,?_⟩;rw[hb];refine zB ?_;refine aC @iG ?_;refine⟨rfl,.busy,none,[(1,ak 2 l aD),(2,ak 1 ch (aA ab)),(3,.ip [ak 3 c ao]),(7,.ptr 1 0)],rfl,?_⟩;simp only[uM,Ko,laid,Nat.reduceLeDiff,↓reduceIte,vd,vb,List.set_cons_zero];exact hK
 have hsc:=Jf lc [(1,ak 2 l aD),(2,ak 1 ch (aA ab)),(3,.ip [ak 3 c ao]),(7,.ptr 1 0)] hrd (by rw[hps];rfl) (by rw[hn];rfl) (by rw[hn];decide) (by rw[hps,hn];rfl) (λo ho=>by
  have h1:¬1=o:=by omega
  simp[dJ,bf,h1,Ev.names,ak,gh]) l ch 40001 hl (by omega) heq
 refine⟨[3,1],_,_,_,_,hsc,?_,rfl,by decide,?_,?_⟩
 ·simp only[ef,bg,bP,ak,dJ,bf,↓reduceIte,ad,a8,Nat.reduceSub,hid,List.map,List.append,ay,a0]
 ·rintro(_ | _ | i) so h
  ·cases h;exact⟨3,rfl,by rfl⟩
  ·cases h;exact⟨1,rfl,by rfl⟩
  ·cases h
 rintro r S' ⟨rfl,rfl⟩;refine⟨by simp only[xw,ef,bg,ak,a8,Nat.reduceLT,decide_true];first | done | rfl,3,.ready,none,[(1,ak 2 l aD),(2,ak 1 ch (aA ab)),(3,.ip [ak 3 c ao]),(7,.ptr 1 0)],by rfl,by decide,by rfl,?_⟩;change ar _ _ _ ⟨[(1,ak 2 l aD),(2,ak 1 ch (aA ab)),(3,.ip [ak 3 c ao]),(7,.ptr 1 0)],33,[.gone,.cells [ab (r4 40001 (l.zip ch))],.ox N,.gone],[{ fn:=none,qe:=N,args:=[],cap:=[] }]⟩ _;obtain⟨day,hday⟩:∃day,day=r4 40001 (l.zip ch):=⟨_,rfl⟩
 have hF:vf c l ch=!(decide ((lX c l ch day).2=0)):=by rw[vf,hg,hday];rfl
 rw[hF,<-hday];have hfo:=wR c l ch day hc hl hlen heq;generalize lX c l ch day=q at hfo;refine zC ?_;refine zK hfo ?_;refine zR ?_;refine zV ?_;refine ar.ret ?_
 (try simp only[fV,dS,cE,cq])
 exact⟨rfl,[(6,az (!decide (q.2=0)))],⟨rfl,trivial⟩,rfl,.inl ⟨rfl,2,rfl,[az (!decide (q.2=0))],az (!decide (q.2=0)),by rfl,Wk.refl rfl,rfl⟩⟩
def jL(l:List bu):Nat:=l.countP λr=>decide (1<bF r)
def fG(c:List aP)(l:List bu):Int:=if lT c=true then (if (l.all λr=>!(decide (bF r=0)))=true then (if (30:Int)<(jL l:Int) then 7 else 0) else 1) else 1
set_option maxHeartbeats 1000000 in
def Bh(c:List aP)(l:List bu)(hc:jD c)(hl:∀r∈l,ea r)(hlen:l.length<=1000000):PC Tryz.prog 106 [.ag [ak 3 c ao],ak 2 l aD] (·=ab (fG c l)):=by
 refine pB 31 Tryz.func106 ?_;refine kD ?_;refine zK (nQ c hc) ?_;cases h1:lT c
 ·refine cM h1 ?_;refine cL ?_;exact zo [.tmp 4] (hq:=by rw[show fG c l=1 by simp[fG,h1]])
 refine cM h1 ?_;refine iK ?_;refine zV ?_;refine zs ?_;refine zL l (λk=>((l.take k).all λr=>!(decide (bF r=0)))=true) (λk=>[(5,ab (jL (l.take k))),(12,ak 2 l aD),(13,ab l.length),(14,ab k)]) (λk=>[]) (Fg.less (by (simp only[bP,bg,dr,↓reduceIte,ad,ak,take_zero,jL,a6])<;>(repeat' apply al)<;>first | rfl | trivial) (by (simp only[bP,bg,or_true,true_or,ak,take_zero,jL,a6])<;>(repeat' apply al)<;>first | exact .inr rfl | exact .inl rfl | trivial)) zp ?_;intro k hk hall;refine zT l k ?_ ?_;rintro rfl;rotate_left;intro r hx hlt;rotate_left
 ·refine dZ ?_;rw[aj] at hall ⊢
  have hN:fG c l=if (30:Int)<(jL l:Int) then 7 else 0:=by rw[fG,h1,ul rfl,ul hall]
  cases h2:decide ((30:Int)<(jL l:Int))
  ·refine aC h2 ?_;refine iK ?_;exact zo [.tmp 4] (hq:=by rw[hN,un (wt h2)])
  ·refine aC h2 ?_;refine cL ?_;exact zo [.tmp 4] (hq:=by rw[hN,ul (ww h2)])
 have hrk:ea r:=hl r (aa hx);have hr1:=hrk.len;have ht:=br hx;have hdl:jL (l.take k)<=k:=Nat.le_trans List.countP_le_length (by rw[aR];omega)
 have hd1:jL (l.take (k+1))=jL (l.take k)+if 1<bF r then 1 else 0:=by
  unfold jL;rw[ht,List.countP_append];by_cases h:1<bF r<;>simp[h]
 generalize jL (l.take k)=dd at hd1 hdl ⊢;refine eQ ?_;refine aC (n3 hlt (aG (e:=2) (enc:=aD) (λ_=>rfl) hx) @aD.eq_1) ?_;refine zC ?_;refine zK (iJ r hrk) ?_;refine zR ?_;refine zB ?_;cases g0:decide (bF r=0);rotate_left
 ·refine aC g0 ?_;refine cL ?_;exact zo [.tmp 4] (hq:=by rw[show fG c l=1 by rw[fG,h1,ul rfl,un (λh=>by have:=List.all_eq_true.1 h r (aa hx);rw[g0] at this;cases this)]])
 refine aC g0 ?_;refine zN ?_
 have hall2:((l.take (k+1)).all λr=>!(decide (bF r=0)))=true:=by
  rw[ht,List.all_append,hall];show(true&&(!(decide (bF r=0))&&true))=true;rw[g0];rfl
 cases g1:decide (1<bF r)
 ·rw[un (wt g1),Nat.add_zero] at hd1;refine aC g1 ?_;refine zN ?_;refine aC (zi hlt hlen) ?_;refine zX hlt (bL hd1) hall2
 ·rw[ul (ww g1)] at hd1;refine aC g1 ?_;refine zY ?_;refine zs ?_;refine ar.r0 (by rfl) (gQ (bA (dd:Int) 1 (by omega))) ?_;refine aC (zi hlt hlen) ?_;refine zX hlt (bL (n2 hd1 @dr)) hall2
def NX(l:List Int):(l.flatMap (aA ab)).all ec=true:=oJ (λ_=>rfl) l
def QP(o:Option Nat):SC Tryz.prog 149 [.buf 0 0 1 o] [.cells []] [] (λr S'=>r=.buf 1 0 1 (some 0)/\S'=[.cells [],.cells []]):=by
 refine GU 6 Tryz.func149 ?_;refine zV ?_;refine aC (n2 @length_nil.{0} @List.map_nil.{0,0}) ?_;refine zE ?_;exact zP [.tmp 2]
def Ed(ch:List Int)(h0:ch≠[])(hlen:ch.length<=1000000)(o:Option Nat):SC Tryz.prog 149 [.buf 0 ch.length 1 o] [.cells (ch.flatMap (aA ab))] [] (λr S'=>r=.buf 1 ch.length 1 none/\S'=[.cells (ch.flatMap (aA ab)),.cells (ch.flatMap (aA ab))]):=by
 refine GU 6 Tryz.func149 ?_;have hcl:=aJ (enc:=aA ab) (e:=1) (λ_=>rfl) ch;have hal:=cV (enc:=aA ab) (e:=1) (λ_=>rfl) ch;have hon:=NX ch;have hkc:=λo=>aZ (enc:=aA ab) (λ_=>rfl) o ch;rw[a2] at hal hcl;have h1:¬ch.length=0:=λe=>h0 (List.length_eq_zero_iff.1 e);have hp0:0<ch.length:=Nat.pos_of_ne_zero h1;have hrc:∀r:Nat->Nat,kh r (ch.flatMap (aA ab))=ch.flatMap (aA ab):=λr=>aY (aB (λ_=>rfl) _);refine zV ?_;refine aC (n9 h1 hp0 hlen hon hkc hal hcl @a2 @a1) ?_;refine ar.fg (st':=⟨[(2,.buf 1 ch.length 1 none),(1000000,.ptr 0 0)],6,[.cells (ch.flatMap (aA ab)),.cells (ch.flatMap (aA ab))],[]⟩) (Fg.rn [0,2] (by decide) rfl (HY hrc) (HZ hrc)) ?_;refine zE ?_;exact zP [.tmp 2]
def Sn(at1 n:Nat)(ch:List Int)(k:Nat)(hk:k<ch.length)(hn:n=ch.length)(o:Option Nat):SC Tryz.prog 150 [.ptr 0 0,.ptr 2 0] [.cells [.buf 1 n 1 o],.cells (ch.flatMap (aA ab)),.cells [ab k]] [] (λr S'=>r=.bE []/\S'=[.cells [.buf 1 n 1 o],.cells ((ch.set k (-1)).flatMap (aA ab)),.cells [ab k]]):=by
 refine S4 5 Tryz.func150 ?_;have hcl:=aJ (enc:=aA ab) (e:=1) (λ_=>rfl) ch;have hs:=gB (enc:=aA ab) (e:=1) (λ_=>rfl) (-1:Int) hk;rw[show aA ab (-1)=[ab (-1)] from rfl,ay,a0,a2] at hs;subst hn;refine aC (n5 hk hcl @a2 (show k+1<=ch.length by omega) hs) ?_;exact zP []
def GV(ch:List Int):Nat->Nat->Nat
 | 0,k=>k
 | f+1,k=>match ch[k]? with
  | some n=>if 0<=n then GV ch f (k+1) else k
  | none=>k
def nO(ch:List Int)(k:Nat):Nat:=GV ch (ch.length-k) k
def Mz{ch:List Int}{k:Nat}{n:Int}(h:ch[k]?=some n)(hn:0<=n):nO ch k=nO ch (k+1):=by
 have:=bD h;unfold nO;rw[show ch.length-k=ch.length-(k+1)+1 by omega,GV,h];simp only[ul hn]
def My{ch:List Int}{k:Nat}{n:Int}(h:ch[k]?=some n)(hn:¬0<=n):nO ch k=k:=by
 have:=bD h;unfold nO;rw[show ch.length-k=ch.length-(k+1)+1 by omega,GV,h];simp only[un hn]
def Mx{ch:List Int}{k:Nat}(h:ch.length<=k):nO ch k=k:=by
 unfold nO;rw[show ch.length-k=0 by omega,GV]
def sO(g:Nat->List (List Int)->Bool×List (List Int)):Nat->Nat->List (List Int)->Bool×List (List Int)
 | 0,_,out=>(true,out)
 | m+1,n,out=>if (g n out).1=true then sO g m (n+1) (g n out).2 else (false,(g n out).2)
def fJ(c:List aP)(l:List bu)(most:Int):Nat->Nat->List Int->List (List Int)->Bool×List (List Int)
 | 0,_,_,out=>(true,out)
 | F+1,i,ch,out=>if vf c l ch=true then (true,out) else match l[nO ch i]? with
  | none=>if Px c l ch=true then (!(decide ((out.length:Int)+1=most)),out++[ch]) else (true,out)
  | some r=>sO (λn out=>fJ c l most F (nO ch i+1) (ch.set (nO ch i) n) out) (bF r).toNat 0 out
def Lc{g:Nat->List (List Int)->Bool×List (List Int)}{most:Int}(hg:∀n out,(out.length:Int)<most->(g n out).1=true->((g n out).2.length:Int)<most):∀(m n:Nat) (out:List (List Int)),(out.length:Int)<most->(sO g m n out).1=true->((sO g m n out).2.length:Int)<most
 | 0,n,out,h,_=>by rw[sO];exact h
 | m+1,n,out,h,ht=>by
  rw[sO] at ht ⊢;split at ht
  ·rename_i h1;rw[ul h1];exact Lc hg m (n+1) _ (hg n out h h1) ht
  ·cases ht
def yL{c:List aP}{l:List bu}{most:Int}:∀(F i:Nat) (ch:List Int) (out:List (List Int)),(out.length:Int)<most->(fJ c l most F i ch out).1=true->((fJ c l most F i ch out).2.length:Int)<most
 | 0,i,ch,out,h,_=>by rw[fJ];exact h
 | F+1,i,ch,out,h,ht=>by
  rw[fJ] at ht ⊢;split
  ·exact h
  ·rename_i h1;rw[un h1] at ht;split
   ·rename_i h2;rw[h2] at ht;simp only at ht;split
    ·rename_i h3;rw[ul h3] at ht;simp only[Bool.not_eq_true',wp] at ht;rw[ax];show((out.length+1:Nat):Int)<most;omega
    ·exact h
   ·rename_i r h2;rw[h2] at ht;exact Lc (λn out h h2=>yL F _ _ _ h h2) _ _ _ h ht
def fX(ch:List Int):List SV:=[ak 1 ch (aA ab)]
def ra(ch:List Int):(fX ch).length=1:=rfl
def mu(ch:List Int):cr (fX ch)=true:=rfl
def rS(out:List (List Int)):SO:=if out=[] then .gone else .cells (out.flatMap fX)
def On{l:List (List Int)}(h:¬l=[]):rS l=.cells (l.flatMap fX):=un h
def DG:rS []=.gone:=rfl
def lr(o:Nat)(l:List (List Int)):bQ o (rS l)=rS l:=by
 unfold rS;split
 ·rfl
 ·rw[bQ,aZ mu]
def jv(r:Nat->Nat)(l:List (List Int)):nk r (rS l)=rS l:=by
 unfold rS;split
 ·rfl
 ·show SO.cells (kh r _)=_;rw[aY (aB mu l)]
def fZ(B:Nat)(l:List (List Int)):kl B (rS l)=true:=by
 unfold rS;split
 ·rfl
 ·exact bC (aB mu l)
def cP(lc:gr)(most:Int)(ok:Bool):SO:=.loop lc (cond ok .ready .done) (cond ok none (some (.exit 0))) [(5,.ip [ab most]),(9,.ptr 1 0)]
def mM(o:Nat)(lc:gr)(most:Int)(ok:Bool)(h:¬1=o):bQ o (cP lc most ok)=cP lc most ok:=by
 simp[cP,bQ,dJ,bf,Ev.names,gh,h]
def Ad(r:Nat->Nat)(lc:gr)(most:Int)(ok:Bool)(h:r 1=1):nk r (cP lc most ok)=cP lc most ok:=by
 show SO.loop lc _ _ [(5,SV.ip [ab most]),(9,SV.ptr (r 1) 0)]=_;rw[h];rfl
def uW(B:Nat)(lc:gr)(most:Int)(ok:Bool)(h:1<B):kl B (cP lc most ok)=true:=by
 simp[cP,kl,C9,dI,fq,h]
def bl(c:List aP)(l:List bu)(lc:gr):SV:=.fn 146 [] [.ip [ak 3 c ao],.ip [ak 2 l aD],.ptr 3 0,.ip [.a (.fn (.yield lc.id) [] [])],.ptr 5 0]
def Rx(c:List aP)(l:List bu)(lc:gr)(most:Int)(ok:Bool)(out:List (List Int))(ch:List Int):List SO:=
 [cP lc most ok,.cells [bn 2 1 out.length],rS out,.cells [.buf 4 ch.length 1 (some ch.length)],.cells (ch.flatMap (aA ab)),.cells [bl c l lc]]
def oG:Code->Option (Code×Code)
 | .seq a b=>match oG a with
  | some x=>some x
  | none=>oG b
 | .block _ c=>oG c
 | .rangeFunc _ _ a b=>some (a,b)
 | _=>none
def sX(lc:gr):Prop:=(Tryz.prog.funcs[(53:Nat)]?.bind λfn=>fn.body.bind oG)=some (lc.a,lc.b)
end Go.Proofs
