/- A part of the texts of this claim: every theorem says what it proves, with its conditions. -/
import Derived.Test.YtnaiockballhaaaGreatA35
import Derived.Test.YtnaiockballhaaaGreatA23
import Derived.Test.YtnaiockballhaaaGreatA21
set_option linter.unusedSimpArgs false
set_option linter.unusedVariables false
set_option linter.unusedSectionVars false
open Nat (reduceEqDiff le_refl reduceAdd reduceLT)
open List (getElem?_eq_getElem replicate take_zero foldl_nil length_set mem_of_getElem? cons_append nil_append take_length)
open Option (bind_some map_some)
namespace Go.Proofs
open Go.Ev
set_option maxRecDepth 100000
def Pz(a b:Int):Int:=dH .i64 (a-b)
def bQ(p:bB×Int):List SV:=[aa p.1.op,aa p.1.day,ak p.1.part,ak p.1.kind,ak p.1.bD,ak p.1.slot,ak p.1.key,ak p.1.value,aa p.1.u1,aa p.1.u2,aa p.1.u3,aa p.1.u4,aa p.1.u5,aa p.1.u6,aa p.2]
theorem fV(e:bB×Int):(bQ e).length=15:=rfl
theorem nr(p:bB×Int):bQ p=[aa p.1.op,aa p.1.day,ak p.1.part,ak p.1.kind,ak p.1.bD,ak p.1.slot,ak p.1.key,ak p.1.value,aa p.1.u1,aa p.1.u2,aa p.1.u3,aa p.1.u4,aa p.1.u5,aa p.1.u6,aa p.2]:=rfl
theorem eI(e:bB×Int):cr (bQ e)=true:=rfl
def It(a b:bB×Int):Int:=Pz a.1.day b.1.day
theorem Le{P:Program}{t:TypeId}{a b:Int}:cM P .sub t (.int .i64 a) (.int .i64 b)=some (.int .i64 (Pz a b)):=by
 simp only[cM,xF,ah,Pz]
theorem CG(a b:bB×Int):PC Tryz.prog 150 [.ag (bQ a),.ag (bQ b)] (·=aa (It a b)):=by
 refine pB 12 Tryz.func150 ?_;refine aE @bQ.eq_1 ?_;refine aE @Le ?_;refine zE ?_;exact zO [.tmp 4]
def rf(cmp:(bB×Int)->(bB×Int)->Int)(x y:(bB×Int)):Bool:=decide (cmp x y<0)
set_option maxHeartbeats 2000000 in
theorem HE(g:FuncId)(cmp:(bB×Int)->(bB×Int)->Int)(hg:∀x y,PC Tryz.prog g [.ag (bQ x),.ag (bQ y)] (·=aa (cmp x y)))(c:Option Nat)(l:List (bB×Int))(hlen:l.length<=100000):
 SC Tryz.prog 200 [.buf 0 l.length 15 c,aa 0,aa l.length,.fn g [] []] [.cells (l.flatMap bQ)] [] (λr S'=>r=.bI []/\S'=[.cells ((pC (rf cmp) l).flatMap bQ)]):=by
 refine Gk 53 Tryz.func200 ?_;refine zV ?_
 (repeat refine ai.seq ?_)
 refine ai.block (ai.loop (λm st=>∃(i:Nat) (q:List (bB×Int)),(q.length=l.length/\(i+1<=l.length\/i=0))/\pC (rf cmp) l=vH (rf cmp) (l.length-(i+1)) (i+1) q/\l.length-i=m/\st=⟨[(0,.buf 0 l.length 15 c),(1,aa 0),(2,aa l.length),(3,.fn g [] []),(8,bX (i+1)),(1000000,.ptr 0 0)],53,[.cells (q.flatMap bQ)],[]⟩) l.length zH ⟨0,l,⟨rfl,.inr rfl⟩,rfl,Nat.sub_zero _,rfl⟩ (by rintro m st ⟨i,q,_,_,_,rfl⟩;rfl) ?_);rintro m st ⟨i,q,⟨hql,hi⟩,hres,rfl,rfl⟩;refine zV ?_;by_cases hlt:i+1<l.length;rotate_left
 ·rw[show decide (((i+1:Nat):Int)<(l.length:Int))=false by simp only[decide_eq_false_iff_not];omega];refine zN ?_;refine ai.fg (st':=⟨[(1000000,.ptr 0 0)],53,[.cells (q.flatMap bQ)],[]⟩) zH ?_;refine ai.exit ?_;simp only[iq,eB,df,cL,if_true];rw[show l.length-(i+1)=0 by omega,vH] at hres;exact zP [] (hq:=by (try simp only[aC,ab]);first | done | (rw[hres];first | exact⟨rfl,rfl⟩ | exact⟨trivial,rfl⟩ | exact⟨rfl,trivial⟩ | exact⟨trivial,trivial⟩))
 rw[show decide (((i+1:Nat):Int)<(l.length:Int))=true by simp only[decide_eq_true_eq];omega];refine zY ?_
 (repeat refine ai.seq ?_)
 refine ai.block ?_;refine zV ?_;obtain⟨s,hs⟩:∃s,l.length-(i+1)=s+1:=⟨l.length-(i+1)-1,by omega⟩;rw[hs,vH] at hres
 (repeat refine ai.seq ?_)
 refine ai.block (ai.loop (λm st=>∃(j:Nat) (p:List (bB×Int)),(p.length=l.length/\j<=i+1)/\oR (rf cmp) (i+1) q=oR (rf cmp) j p/\j=m/\st=⟨[(0,.buf 0 l.length 15 c),(1,aa 0),(2,aa l.length),(3,.fn g [] []),(8,bX (i+1)),(9,bX j),(1000000,.ptr 0 0)],53,[.cells (p.flatMap bQ)],[]⟩) (i+1) zH ⟨i+1,q,⟨hql,le_refl _⟩,rfl,rfl,rfl⟩ (by rintro m st ⟨j,p,_,_,_,rfl⟩;rfl) ?_);rintro m st ⟨j,p,⟨hpl,hj⟩,hb,rfl,rfl⟩;have hil:i+1<l.length:=hlt
 have hcl:(p.flatMap bQ).length=l.length*15:=by rw[aJ fV,hpl]
 cases j with
 | zero=>
  refine zs ?_;refine oW [0,0,3,7,15,15,15,111,239,15,15,1039,3599,7695,16383,32767,65535] ?_;refine nL (show decide ((0:Int)<((0:Nat):Int))=false from rfl) ?_;refine zM ?_;refine zN ?_;refine ai.exit ?_;refine aE (nh (show -9223372036854775808<=((i+1:Nat):Int)+1/\((i+1:Nat):Int)+1<=9223372036854775807 from⟨by omega,by omega⟩)) ?_;exact⟨l.length-(i+1),_,by omega,zH,i+1,p,⟨hpl,.inl (by omega)⟩,by rw[hres,hb,oR,show l.length-(i+1+1)=s by omega],rfl,rfl⟩
 | succ j=>
  have hj1:j+1<l.length:=by omega
  have hj0:j<l.length:=by omega
  obtain⟨x,hx⟩:∃x,p[j+1]?=some x:=⟨p[j+1],getElem?_eq_getElem (by omega)⟩;obtain⟨y,hy⟩:∃y,p[j]?=some y:=⟨p[j],getElem?_eq_getElem (by omega)⟩;have ax:((p.flatMap bQ).drop ((j+1)*15)).take 15=bQ x:=aH (e:=15) (enc:=bQ) fV hx;have ay:((p.flatMap bQ).drop (j*15)).take 15=bQ y:=aH (e:=15) (enc:=bQ) fV hy
  have hbs:oR (rf cmp) (j+1) p=if rf cmp x y=true then oR (rf cmp) j ((p.set (j+1) y).set j x) else p:=by rw[oR,hx,hy]
  have s1:=gN (enc:=bQ) fV (l:=p) (i:=j+1) y (by omega);have s2:=gN (enc:=bQ) fV (l:=p.set (j+1) y) (i:=j) x (by rw[length_set];omega)
  have hcl2:((p.set (j+1) y).flatMap bQ).length=l.length*15:=by rw[aJ fV,length_set,hpl]
  rw[nr y] at s1 ay;rw[nr x] at s2 ax;simp only[cons_append,nil_append] at s1 s2;have hgx:=hg x y;rw[nr y,nr x] at hgx;refine zs ?_;refine oW [0,0,3,7,15,15,15,111,239,15,15,1039,3599,7695,16383,32767,65535] ?_;refine nL (n10 (show decide ((0:Int)<((j+1:Nat):Int))=true from by simp only[decide_eq_true_eq];omega) hj1 hj0 (KP (show -9223372036854775808<=((j+1:Nat):Int)-1/\((j+1:Nat):Int)-1<=9223372036854775807 from⟨by omega,by omega⟩)) (show((j+1:Nat):Int)-1=(j:Int) from by omega) hcl (show(j+1)*15+15<=l.length*15 by omega) (show j*15+15<=l.length*15 by omega) ax ay) ?_;refine SD.k (by rfl) rfl rfl (by rfl) rfl rfl zc (hgx) (zw) rfl ?_;cases hc:decide (cmp x y<0)
  ·rw[rf,hc,if_neg (by decide)] at hbs;refine nL hc ?_;refine zM ?_;refine zN ?_;refine ai.exit ?_;refine aE (nh (show -9223372036854775808<=((i+1:Nat):Int)+1/\((i+1:Nat):Int)+1<=9223372036854775807 from⟨by omega,by omega⟩)) ?_;exact⟨l.length-(i+1),_,by omega,zH,i+1,p,⟨hpl,.inl (by omega)⟩,by rw[hres,hb,hbs,show l.length-(i+1+1)=s by omega],rfl,rfl⟩
  ·rw[rf,hc,if_pos rfl] at hbs;refine nL hc ?_;refine zM ?_;refine zY ?_
   (repeat refine ai.seq ?_)
   refine ai.block ?_;refine zs ?_;refine oW [0,0,0,0,8,0,0,64,224,480,0,0,3072,7168,16355,32739,65535,131071] ?_;refine nL (n9 hj1 hj0 (KP (show -9223372036854775808<=((j+1:Nat):Int)-1/\((j+1:Nat):Int)-1<=9223372036854775807 from⟨by omega,by omega⟩)) (show((j+1:Nat):Int)-1=(j:Int) from by omega) hcl (show(j+1)*15+15<=l.length*15 by omega) (show j*15+15<=l.length*15 by omega) ax ay) ?_;refine SD.e (by rfl) rfl (by rfl) rfl rfl (by rfl) (gY (n3 hcl (show(j+1)*15+15<=l.length*15 by omega) s1)) ?_;refine nL (n4 hj1 hj0 (KP (show -9223372036854775808<=((j+1:Nat):Int)-1/\((j+1:Nat):Int)-1<=9223372036854775807 from⟨by omega,by omega⟩)) (show((j+1:Nat):Int)-1=(j:Int) from by omega)) ?_;refine SD.e (by rfl) rfl (by rfl) rfl rfl (by rfl) (gY (n3 hcl2 (show j*15+15<=l.length*15 by omega) s2)) ?_;refine zM ?_;refine aE (n2 (KP (show -9223372036854775808<=((j+1:Nat):Int)-1/\((j+1:Nat):Int)-1<=9223372036854775807 from⟨by omega,by omega⟩)) (show((j+1:Nat):Int)-1=(j:Int) from by omega)) ?_;exact⟨j,_,by omega,zH,j,(p.set (j+1) y).set j x,⟨by rw[length_set,length_set,hpl],by omega⟩,by rw[hb,hbs],rfl,rfl⟩
theorem FU(g:FuncId)(cmp:(bB×Int)->(bB×Int)->Int)(hg:∀x y,PC Tryz.prog g [.ag (bQ x),.ag (bQ y)] (·=aa (cmp x y)))(c:Option Nat)(l:List (bB×Int))(hlen:l.length<20):
 SC Tryz.prog 183 [.buf 0 l.length 15 c,aa l.length,.fn g [] []] [.cells (l.flatMap bQ)] [] (λr S'=>r=.bI []/\S'=[.cells ((pC (rf cmp) l).flatMap bQ)]):=by
 have hins:=HE g cmp hg c l (by omega);have hrc:∀(g:Nat->Nat) (l:List (bB×Int)),jM g (l.flatMap bQ)=l.flatMap bQ:=λg l=>aZ (aB eI l);have hbc:∀(B:Nat) (l:List (bB×Int)),fc B (l.flatMap bQ)=true:=λB l=>bu (aB eI l);have hkc:∀(o:Nat) (l:List (bB×Int)),(l.flatMap bQ).map (bf o)=l.flatMap bQ:=λo l=>aW eI o l
 have h1:decide ((20:Int)<=(l.length:Int))=false:=by simp only[decide_eq_false_iff_not];omega
 have h2:decide ((20:Int)<(l.length:Int))=false:=by simp only[decide_eq_false_iff_not];omega
 refine Gk 63 Tryz.func183 ?_;refine kQ ?_
 (repeat refine ai.seq ?_)
 refine ai.block (ai.loop (λm st=>m=0/\st=⟨[(0,.buf 0 l.length 15 c),(1,aa l.length),(2,.fn g [] []),(6,aa 20),(7,aa 0),(8,aa 20),(1000000,.ptr 0 0)],63,[.cells (l.flatMap bQ)],[]⟩) 0 zH ⟨rfl,rfl⟩ (by rintro m st ⟨_,rfl⟩;rfl) ?_);rintro m st ⟨rfl,rfl⟩;refine aE h1 ?_;refine zN ?_;refine ai.exit ?_
 (try change ai _ _ _ _ _)
 refine zC ?_;refine zS [0] (n3 hrc hbc hkc) hins ?_;refine zR ?_
 (repeat refine ai.seq ?_)
 refine ai.block (ai.loop (λm st=>m=0/\st=⟨[(1,aa l.length),(6,aa 20),(1000000,.ptr 0 0)],63,[.cells ((pC (rf cmp) l).flatMap bQ)],[]⟩) 0 zH ⟨rfl,rfl⟩ (by rintro m st ⟨_,rfl⟩;rfl) ?_);rintro m st ⟨rfl,rfl⟩;refine aE h2 ?_;refine zN ?_;refine ai.exit ?_;simp only[iq,eB,df,cL,if_true];exact zP []
theorem Ae(g:FuncId)(cmp:(bB×Int)->(bB×Int)->Int)(hg:∀x y,PC Tryz.prog g [.ag (bQ x),.ag (bQ y)] (·=aa (cmp x y)))(c:Option Nat)(l:List (bB×Int))(hlen:l.length<20):
 SC Tryz.prog 149 [.buf 0 l.length 15 c,.fn g [] []] [.cells (l.flatMap bQ)] [] (λr S'=>r=.bI []/\S'=[.cells ((pC (rf cmp) l).flatMap bQ)]):=by
 have hins:=FU g cmp hg c l hlen;have hrc:∀(g:Nat->Nat) (l:List (bB×Int)),jM g (l.flatMap bQ)=l.flatMap bQ:=λg l=>aZ (aB eI l);have hbc:∀(B:Nat) (l:List (bB×Int)),fc B (l.flatMap bQ)=true:=λB l=>bu (aB eI l);have hkc:∀(o:Nat) (l:List (bB×Int)),(l.flatMap bQ).map (bf o)=l.flatMap bQ:=λo l=>aW eI o l;refine Gk 9 Tryz.func149 ?_;refine zC ?_;refine zS [0] (n3 hrc hbc hkc) hins ?_;refine zR ?_;exact zP []
theorem Fy(g:FuncId):PC Tryz.prog 200 [.sl 0 15 [],aa 0,aa 0,.fn g [] []] (·=.bI []):=by
 refine pB 53 Tryz.func200 ?_;refine zV ?_
 (repeat refine ai.seq ?_)
 refine ai.block (ai.loop (λm st=>m=0/\st=⟨[(2,aa 0),(3,.fn g [] []),(8,aa 1)],53,[],[]⟩) 0 zH ⟨rfl,rfl⟩ (by rintro m st ⟨_,rfl⟩;rfl) ?_);rintro m st ⟨rfl,rfl⟩;refine aE (show decide ((1:Int)<0)=false from rfl) ?_;refine zN ?_;refine ai.exit ?_;simp only[iq,eB,df,cL,if_true];exact zO []
theorem C6(g:FuncId):PC Tryz.prog 183 [.sl 0 15 [],aa 0,.fn g [] []] (·=.bI []):=by
 refine pB 63 Tryz.func183 ?_;refine kQ ?_
 (repeat refine ai.seq ?_)
 refine ai.block (ai.loop (λm st=>m=0/\st=⟨[(0,.sl 0 15 []),(1,aa 0),(2,.fn g [] []),(6,aa 20),(7,aa 0),(8,aa 20)],63,[],[]⟩) 0 zH ⟨rfl,rfl⟩ (by rintro m st ⟨_,rfl⟩;rfl) ?_);rintro m st ⟨rfl,rfl⟩;refine aE (show decide ((20:Int)<=0)=false from rfl) ?_;refine zN ?_;refine ai.exit ?_
 (try change ai _ _ _ _ _)
 refine zC ?_;refine zK (Fy g) ?_;refine zR ?_
 (repeat refine ai.seq ?_)
 refine ai.block (ai.loop (λm st=>m=0/\st=⟨[(1,aa 0),(6,aa 20)],63,[],[]⟩) 0 zH ⟨rfl,rfl⟩ (by rintro m st ⟨_,rfl⟩;rfl) ?_);rintro m st ⟨rfl,rfl⟩;refine aE (show decide ((20:Int)<0)=false from rfl) ?_;refine zN ?_;refine ai.exit ?_;simp only[iq,eB,df,cL,if_true];exact zO []
theorem yM(g:FuncId):PC Tryz.prog 149 [.sl 0 15 [],.fn g [] []] (·=.bI []):=by
 refine pB 9 Tryz.func149 ?_;refine zC ?_;refine zK (C6 g) ?_;refine zR ?_;exact zO []
theorem CH(c:List aU)(s:List aG)(e:bB)(hc:jJ c)(hlen:s.length<=100000)(hs:∀p∈s,gn p)(he:oZ e):SC Tryz.prog 151 [.ag (aF e),.ip [an 3 c aq],.ptr 0 0] [.cells [an 14 s ae]] []
 (λr S'=>r=aa (aV c s e).2/\S'=[.cells [an 14 (aV c s e).1 ae]]):=by
 refine Gk 13 Tryz.func151 ?_;have hap:=yr c s e hc hlen hs he;unfold jR at hap;generalize aV c s e=q at hap ⊢;rw[dg] at hap ⊢;refine ki ?_;refine zK hap ?_ (hfl:=.inr (bn.refl rfl));refine zR ?_;refine zV ?_;refine ai.fg (st':=⟨[(4,aa q.2),(1000000,.ptr 0 0)],13,[.cells [an 14 q.1 ae]],[]⟩) zH ?_;refine zE ?_;exact zP [.tmp 4]
def kN(day:Int)(i:Nat)(p:bq×Int):List (bB×Int):=if p.2<0 then [] else match p.1.opts[p.2.toNat]? with
 | some e=>if e.day<day then [(e,(i:Int))] else []
 | none=>[]
def cq(day:Int):Nat->List (bq×Int)->List (bB×Int)
 | _,[]=>[]
 | i,p::l=>kN day i p++cq day (i+1) l
theorem u9(day:Int):∀(l:List (bq×Int)) (i:Nat) (p:bq×Int),cq day i (l++[p])=cq day i l++kN day (i+l.length) p
 | [],i,p=>by simp[cq]
 | a::l,i,p=>by
  rw[cons_append,cq,cq,u9 day l (i+1) p,List.append_assoc,List.length_cons]
  congr 3;omega
theorem Mo(day:Int)(i:Nat)(p:bq×Int):(kN day i p).length<=1:=by
 unfold kN;split
 ·simp
 ·split
  ·split<;>simp
  ·simp
theorem rl(day:Int):∀(l:List (bq×Int)) (i:Nat),(cq day i l).length<=l.length
 | [],i=>by simp[cq]
 | p::l,i=>by
  have h1:=Mo day i p;have h2:=rl day l (i+1);rw[cq,List.length_append,List.length_cons];omega
theorem Kp{day:Int}{i:Nat}{p:bq×Int}{x:bB×Int}(h:x∈kN day i p):x.1∈p.1.opts:=by
 unfold kN at h;split at h
 ·cases h
 ·split at h
  ·rename_i e he;split at h
   ·rw[List.mem_singleton.1 h];exact mem_of_getElem? he
   ·cases h
  ·cases h
theorem va{day:Int}:∀{l:List (bq×Int)} {i:Nat} {x:bB×Int},x∈cq day i l->∃p∈l,x.1∈p.1.opts
 | [],i,x,h=>by simp[cq] at h
 | p::l,i,x,h=>by
  rw[cq] at h
  rcases List.mem_append.1 h with h | h
  ·exact⟨p,List.mem_cons_self,Kp h⟩
  ·obtain⟨q,h1,h2⟩:=va h;exact⟨q,List.mem_cons_of_mem _ h1,h2⟩
def oF(l:List (bB×Int)):List (bB×Int):=pC (rf It) l
def uH(c:List aU):List aG->List (bB×Int)->Int×Int
 | _,[]=>(-1,0)
 | s,p::r=>if (aV c s p.1).2=0 then uH c (aV c s p.1).1 r else (p.2,(aV c s p.1).2)
def lq(c:List aU)(l:List bq)(ch:List Int)(day:Int):Int×Int:=uH c [] (oF (cq day 0 (l.zip ch)))
set_option maxHeartbeats 4000000 in
theorem vm(c:List aU)(l:List bq)(ch:List Int)(day:Int)(hc:jJ c)(hl:∀r∈l,ea r)(hlen:l.length<20)(heq:l.length=ch.length):PC Tryz.prog 112 [.ag [an 3 c aq],an 2 l aD,an 1 ch (az aa),aa day] (·=.bI [aa (lq c l ch day).1,aa (lq c l ch day).2]):=by
 refine pB 79 Tryz.func112 ?_;refine zV ?_;refine ai.fg (Fg.freeze (f':=[(1,an 2 l aD),(2,an 1 ch (az aa)),(3,aa day),(4,.ip [an 3 c aq])]) 0 rfl (λh=>by cases h) (p6 @an.eq_1)) ?_
 (try change ai _ _ _ _ _)
 refine kQ ?_
 have hz:∀{k:Nat} {r:bq} {n:Int},l[k]?=some r->ch[k]?=some n->(l.zip ch)[k]?=some (r,n):=λh1 h2=>by
  rw[List.getElem?_zip_eq_some];exact⟨h1,h2⟩
 have hzl:(l.zip ch).length=l.length:=by rw[List.length_zip,<-heq,Nat.min_self]
 (repeat refine ai.seq ?_)
 refine ai.mono (Q:=λe st=>e=.normal/\Fg st ⟨[(4,.ip [an 3 c aq]),(10,bm 2 15 (cq day 0 (l.zip ch)).length)],79,ow 2 (cq day 0 (l.zip ch)) bQ,[]⟩) ?_ ?_
 ·refine zs ?_;refine zL l (λk=>True) (λk=>[(2,an 1 ch (az aa)),(3,aa day),(4,.ip [an 3 c aq]),(10,bm 2 15 (cq day 0 ((l.zip ch).take k)).length),(19,an 2 l aD),(20,aa l.length),(21,aa k)]) (λk=>ow 2 (cq day 0 ((l.zip ch).take k)) bQ) (cI (n5 @take_zero.{0} @cq.eq_1 @List.length_nil.{0} @dy @e9)) zp ?_;intro k hk hall;refine zV ?_;by_cases hlt:k<l.length;rotate_left;obtain rfl:k=l.length:=(by omega);rw[zf];rotate_left;rw[zt hlt];obtain⟨r,hx⟩:=zx hlt;rotate_left
  ·refine zN ?_;refine ai.exit ?_;rw[<-hzl,take_length];by_cases h0:cq day 0 (l.zip ch)=[]
   ·rw[h0];exact⟨rfl,(cI (n3 @e9 @dy @List.length_nil.{0}))⟩
   ·rw[gF h0];exact⟨rfl,(cI oU)⟩
  have hrk:ea r:=hl r (mem_of_getElem? hx);have hr1:=hrk.len;obtain⟨n,hn⟩:∃n,ch[k]?=some n:=⟨ch[k],getElem?_eq_getElem (by omega)⟩;have hzk:=hz hx hn;have ht:=bo hzk
  have hlc2:k<ch.length:=by omega
  have hol:(cq day 0 ((l.zip ch).take k)).length<=k:=by
   have:=rl day ((l.zip ch).take k) 0;rw[List.length_take] at this;omega
  have hfm:cq day 0 ((l.zip ch).take (k+1))=cq day 0 ((l.zip ch).take k)++kN day k (r,n):=by
   rw[ht,u9,List.length_take,hzl,Nat.min_eq_left (by omega),Nat.zero_add]
  generalize hO:cq day 0 ((l.zip ch).take k)=out at hol hfm;refine zY ?_
  (repeat refine ai.seq ?_)
  refine ai.block ?_;have hcl:=aJ fV out;have hkc:=λo=>aW eI o out
  have hlen6:l.length<=1000000:=by omega
  have hg1:∀i:Nat,decide (0<=(i:Int))=true:=λi=>by simp
  by_cases hk0:out=[]
  ·rw[show ow 2 out bQ=[] by rw[hk0];rfl,show bm 2 15 out.length=cC by rw[hk0];rfl];refine aE (n3 hlt (aH (e:=2) (enc:=aD) (λ_=>rfl) hx) @aD.eq_1) ?_;refine aE (n3 hlc2 (aH (e:=1) (enc:=az aa) (λ_=>rfl) hn) @az.eq_1) ?_
   have fin:kN day k (r,n)=[]->bm 2 15 (cq day 0 ((l.zip ch).take (k+1))).length=cC/\ow 2 (cq day 0 ((l.zip ch).take (k+1))) bQ=[]:=λh=>by rw[hfm,h,hk0];exact⟨rfl,rfl⟩
   cases g1:decide (0<=n)
   ·have g1':=of_decide_eq_false g1;obtain⟨f1,f2⟩:=fin (by unfold kN;rw[if_pos (by show n<0;omega)]);refine aE g1 ?_;refine zN ?_;refine aE (zi hlt hlen6) ?_;refine zX hlt (cI (n2 f1 f2)) trivial
   obtain⟨i,rfl⟩:∃i:Nat,n=(i:Int):=⟨n.toNat,by have:=of_decide_eq_true g1;omega⟩;by_cases g2:i<r.opts.length;rotate_left
   ·obtain⟨f1,f2⟩:=fin (by unfold kN;rw[if_neg (by show ¬(i:Int)<0;omega)];show(match r.opts[i]? with | some e=>_ | none=>_)=_;rw[List.getElem?_eq_none (by omega)]);refine aE (n2 g1 (show decide ((i:Int)<(r.opts.length:Int))=false by simp only[decide_eq_false_iff_not];omega)) ?_;refine zN ?_;refine aE (zi hlt hlen6) ?_;refine zX hlt (cI (n2 f1 f2)) trivial
   obtain⟨e,hei⟩:∃e,r.opts[i]?=some e:=⟨r.opts[i],getElem?_eq_getElem g2⟩
   have hpk:kN day k (r,(i:Int))=if e.day<day then [(e,(k:Int))] else []:=by
    unfold kN;rw[if_neg (by show ¬(i:Int)<0;omega)];show(match r.opts[i]? with | some e=>_ | none=>_)=_;rw[hei]
   cases g3:decide (e.day<day)
   ·rw[if_neg (of_decide_eq_false g3)] at hpk;obtain⟨f1,f2⟩:=fin hpk;refine aE (n6 g1 g2 (show decide ((i:Int)<(r.opts.length:Int))=true by simp only[decide_eq_true_eq];omega) (aH (e:=14) (enc:=aF) (λ_=>rfl) hei) @aF.eq_1 g3) ?_;refine zN ?_;refine aE (zi hlt hlen6) ?_;refine zX hlt (cI (n2 f1 f2)) trivial
   ·rw[if_pos (of_decide_eq_true g3)] at hpk;rw[hpk,hk0,nil_append] at hfm
    have hE3:bm 2 15 (cq day 0 ((l.zip ch).take (k+1))).length=.buf 2 1 15 none:=by rw[hfm];rfl
    have hE4:ow 2 (cq day 0 ((l.zip ch).take (k+1))) bQ=[.gone,.gone,.cells (bQ (e,(k:Int)))]:=by rw[hfm];rfl
    refine aE (n6 g1 g2 (show decide ((i:Int)<(r.opts.length:Int))=true by simp only[decide_eq_true_eq];omega) (aH (e:=14) (enc:=aF) (λ_=>rfl) hei) @aF.eq_1 g3) ?_;refine zY ?_;refine aE (n3 g2 (aH (e:=14) (enc:=aF) (λ_=>rfl) hei) @aF.eq_1) ?_;refine aE (zi hlt hlen6) ?_;refine zX hlt (cI (n3 hE3 hE4 @bQ.eq_1)) trivial
  ·have hk1:¬out.length=0:=λh=>hk0 (List.length_eq_zero_iff.1 h);rw[gF hk0,bV hk1];refine aE (n5 hlt (aH (e:=2) (enc:=aD) (λ_=>rfl) hx) @aD.eq_1 oU hkc) ?_;refine aE (n4 hkc hlc2 (aH (e:=1) (enc:=az aa) (λ_=>rfl) hn) @az.eq_1) ?_
   have fin:kN day k (r,n)=[]->bm 2 15 (cq day 0 ((l.zip ch).take (k+1))).length=bm 2 15 out.length/\ow 2 (cq day 0 ((l.zip ch).take (k+1))) bQ=ow 2 out bQ:=λh=>by rw[hfm,h,List.append_nil];exact⟨rfl,rfl⟩
   cases g1:decide (0<=n)
   ·have g1':=of_decide_eq_false g1;obtain⟨f1,f2⟩:=fin (by unfold kN;rw[if_pos (by show n<0;omega)]);refine aE (n2 hkc g1) ?_;refine zN ?_;refine zs ?_;refine ai.r0 (by rfl) (gY (nh (dX hlt hlen6 (by decide)))) ?_;refine⟨l.length-(k+1),_,by omega,(Fg.less (by (simp only[bx,aX,cw,↓reduceIte,reduceEqDiff,an,f1,f2,bV hk1,gF hk0,replicate])<;>(repeat' apply And.intro)<;>first | rfl | trivial) (by (simp only[bx,aX,or_true,true_or,an,f1,f2,bV hk1,gF hk0,replicate])<;>(repeat' apply And.intro)<;>first | exact .inr rfl | exact .inl rfl | trivial)),k+1,by omega,rfl,trivial,rfl⟩
   obtain⟨i,rfl⟩:∃i:Nat,n=(i:Int):=⟨n.toNat,by have:=of_decide_eq_true g1;omega⟩;by_cases g2:i<r.opts.length;rotate_left
   ·obtain⟨f1,f2⟩:=fin (by unfold kN;rw[if_neg (by show ¬(i:Int)<0;omega)];show(match r.opts[i]? with | some e=>_ | none=>_)=_;rw[List.getElem?_eq_none (by omega)]);refine aE (n3 hkc g1 (show decide ((i:Int)<(r.opts.length:Int))=false by simp only[decide_eq_false_iff_not];omega)) ?_;refine zN ?_;refine zs ?_;refine ai.r0 (by rfl) (gY (nh (dX hlt hlen6 (by decide)))) ?_;refine⟨l.length-(k+1),_,by omega,(Fg.less (by (simp only[bx,aX,cw,↓reduceIte,reduceEqDiff,an,f1,f2,bV hk1,gF hk0,replicate])<;>(repeat' apply And.intro)<;>first | rfl | trivial) (by (simp only[bx,aX,or_true,true_or,an,f1,f2,bV hk1,gF hk0,replicate])<;>(repeat' apply And.intro)<;>first | exact .inr rfl | exact .inl rfl | trivial)),k+1,by omega,rfl,trivial,rfl⟩
   obtain⟨e,hei⟩:∃e,r.opts[i]?=some e:=⟨r.opts[i],getElem?_eq_getElem g2⟩
   have hpk:kN day k (r,(i:Int))=if e.day<day then [(e,(k:Int))] else []:=by
    unfold kN;rw[if_neg (by show ¬(i:Int)<0;omega)];show(match r.opts[i]? with | some e=>_ | none=>_)=_;rw[hei]
   cases g3:decide (e.day<day)
   ·rw[if_neg (of_decide_eq_false g3)] at hpk;obtain⟨f1,f2⟩:=fin hpk;refine aE (n7 hkc g1 g2 (show decide ((i:Int)<(r.opts.length:Int))=true by simp only[decide_eq_true_eq];omega) (aH (e:=14) (enc:=aF) (λ_=>rfl) hei) @aF.eq_1 g3) ?_;refine zN ?_;refine zs ?_;refine ai.r0 (by rfl) (gY (nh (dX hlt hlen6 (by decide)))) ?_;(try change ai _ _ _ _ _);refine⟨l.length-(k+1),_,by omega,(Fg.less (by (simp only[bx,aX,cw,↓reduceIte,reduceEqDiff,an,f1,f2,bV hk1,gF hk0,replicate])<;>(repeat' apply And.intro)<;>first | rfl | trivial) (by (simp only[bx,aX,or_true,true_or,an,f1,f2,bV hk1,gF hk0,replicate])<;>(repeat' apply And.intro)<;>first | exact .inr rfl | exact .inl rfl | trivial)),k+1,by omega,rfl,trivial,rfl⟩
   ·rw[if_pos (of_decide_eq_true g3)] at hpk;rw[hpk] at hfm;have happ:=dO fV eI 2 out (e,(k:Int));rw[nr] at happ
    have hE3:bm 2 15 (cq day 0 ((l.zip ch).take (k+1))).length=.buf 2 (out.length+1) 15 none:=by rw[hfm,List.length_append];rfl
    have hE4:ow 2 (cq day 0 ((l.zip ch).take (k+1))) bQ=[.gone,.gone,.cells ((out++[(e,(k:Int))]).flatMap bQ)]:=by rw[hfm,jz];rfl
    refine aE (n7 hkc g1 g2 (show decide ((i:Int)<(r.opts.length:Int))=true by simp only[decide_eq_true_eq];omega) (aH (e:=14) (enc:=aF) (λ_=>rfl) hei) @aF.eq_1 g3) ?_;refine zY ?_;refine aE (n8 g2 (aH (e:=14) (enc:=aF) (λ_=>rfl) hei) @aF.eq_1 hcl hkc (show out.length<=1000000 by omega) @le_refl happ) ?_;refine aE (zi hlt hlen6) ?_;refine zX hlt (cI (n2 hE3 hE4)) trivial
 rintro e st ⟨rfl,hfg⟩;refine ai.fg hfg ?_;clear hfg
 (try change ai _ _ _ _ _)
 have hal:(cq day 0 (l.zip ch)).length<20:=Nat.lt_of_le_of_lt (rl day _ 0) (by omega)
 have hmem:∀x∈cq day 0 (l.zip ch),oZ x.1:=by
  intro x hx;obtain⟨p,h1,h2⟩:=va hx;exact(hl p.1 (List.of_mem_zip h1).1).ev _ h2
 unfold lq;generalize cq day 0 (l.zip ch)=all at hal hmem ⊢;have hmem2:∀x∈oF all,oZ x.1:=λx hx=>hmem x ((AK _ _).mem_iff.1 hx);have hsl:(oF all).length=all.length:=xC _ _
 (repeat refine ai.seq ?_)
 refine ai.mono (Q:=λe st=>e=.normal/\Fg st ⟨[(4,.ip [an 3 c aq]),(10,an 15 (oF all) bQ)],79,[],[]⟩) ?_ ?_
 ·by_cases h0:all=[]
  ·subst h0;rw[e9,show bm 2 15 ([]:List (bB×Int)).length=cC from rfl];refine zC ?_;refine zK (yM 150) ?_ (hwk:=bn.cons (.nil _) (.cons (.fn .nil .nil) .nil));refine zR ?_;exact⟨rfl,Fg.trans (Fg.wk (f':=[(4,.ip [an 3 c aq]),(10,an 15 (oF []) bQ)]) ⟨.inl rfl,.inr (.nil _),trivial⟩) zH⟩
  ·have hk1:¬all.length=0:=λh=>h0 (List.length_eq_zero_iff.1 h);rw[gF h0,bV hk1];have hrc:∀(g:Nat->Nat) (l:List (bB×Int)),jM g (l.flatMap bQ)=l.flatMap bQ:=λg l=>aZ (aB eI l);have hbc:∀(B:Nat) (l:List (bB×Int)),fc B (l.flatMap bQ)=true:=λB l=>bu (aB eI l);have hkc:∀(o:Nat) (l:List (bB×Int)),(l.flatMap bQ).map (bf o)=l.flatMap bQ:=λo l=>aW eI o l;have hst:=Ae 150 It CG none all hal;rw[show pC (rf It) all=oF all from rfl] at hst;refine zC ?_;refine zS [2] (n4 hrc hbc hkc oU) hst ?_ (hc:=Gh oU);refine zR ?_;exact⟨rfl,Fg.trans (Fg.freeze (f':=[(4,.ip [an 3 c aq]),(10,an 15 (oF all) bQ)]) 2 rfl (λh=>by cases h) ⟨.inl rfl,.inr (by rw[mc 15 (oF all) bQ,hsl];exact .buf rfl (by rw[<-hsl,cu fV];exact bn.refl (aB eI _)) (by rw[aJ fV,hsl];exact le_refl _)),trivial⟩) zH⟩
 rintro e st ⟨rfl,hfg⟩;refine ai.fg hfg ?_;clear hfg
 (try change ai _ _ _ _ _)
 rw[<-hsl] at hal;generalize oF all=ev at hal hmem2 ⊢
 have hlen1:ev.length<=1000000:=by omega
 refine zV ?_;refine ai.fg (Fg.Rj (S':=[.cells [an 14 ([]:List aG) ae]]) ⟨.inr ⟨by decide,.inr ⟨_,_,rfl,rfl,.cons (.nil _) .nil⟩⟩,trivial⟩) ?_
 (try change ai _ _ _ _ _)
 refine kQ ?_;refine zs ?_;refine ai.block (ai.loop (λm st=>∃k:Nat,∃s:List aG,k<=ev.length/\m=ev.length-k/\(uH c [] ev=uH c s (ev.drop k)/\(∀p∈s,gn p)/\s.length<=k)/\st=⟨[(15,.fn 151 [] [.ip [an 3 c aq],.ptr 0 0]),(63,an 15 ev bQ),(64,aa ev.length),(65,aa k)],79,[.cells [an 14 s ae]],[]⟩) ev.length (Fg.less uR (by (simp only[bx,aX,or_true,true_or,an])<;>(repeat' apply And.intro)<;>first | exact .inr rfl | exact .inl rfl | trivial)) ⟨0,[],Nat.zero_le _,rfl,(by first | exact⟨rfl,by simp,Nat.zero_le _⟩ | trivial | rfl),rfl⟩ (by rintro m st ⟨k,_,_,_,_,rfl⟩;rfl) ?_);rintro m st ⟨k,s,hk,rfl,hall,rfl⟩;refine zs ?_;refine ai.r0 (by rfl) (by simp only[bx,aX,an,aw,bind_some,map_some,↓reduceIte,reduceEqDiff,reduceAdd,Nat.reduceMul,Nat.reduceLeDiff,reduceLT,ah,ao,aP];first | done | rfl) ?_;by_cases hlt:k<ev.length;rotate_left;obtain rfl:k=ev.length:=(by omega);rw[show decide ((ev.length:Int)<(ev.length:Int))=false by simp];rotate_left;rw[show decide ((k:Int)<(ev.length:Int))=true by simp only[decide_eq_true_eq];omega];obtain⟨p,hx⟩:∃zz,ev[k]?=some zz:=⟨ev[k],getElem?_eq_getElem hlt⟩;rotate_left
 ·refine zN ?_;refine ai.exit ?_;obtain⟨hr,-,-⟩:=hall;rw[List.drop_length] at hr;refine zV ?_;refine zE ?_;exact zO [.tmp 8,.tmp 9] (hq:=by (try simp only[aC,ab]);first | done | (rw[hr];rfl))
 obtain⟨hr,hps,hsk⟩:=hall;rw[eZ hx] at hr;have hpo:=hmem2 p (mem_of_getElem? hx);have hfo:=CH c s p.1 hc (by omega) hps hpo;obtain⟨q1,q2,q3,q4⟩:=ub (c:=c) hps hpo
 have hr2:uH c s (p::ev.drop (k+1))=if (aV c s p.1).2=0 then uH c (aV c s p.1).1 (ev.drop (k+1)) else (p.2,(aV c s p.1).2):=rfl
 rw[hr2] at hr;clear hr2;generalize aV c s p.1=q at hfo q1 q2 q3 q4 hr;rw[dg] at hfo;refine zY ?_
 (repeat refine ai.seq ?_)
 refine ai.block ?_;refine aE (n3 hlt (aH (e:=15) (enc:=bQ) (λ_=>rfl) hx) @nr) ?_;refine zC ?_;refine zS [0] trivial hfo ?_;refine zR ?_;by_cases he:q.2=0
 ·rw[if_pos he] at hr;refine aE (show decide (q.2=0)=true from decide_eq_true he) ?_;refine zN ?_;refine zs ?_;refine ai.r0 (by rfl) (by simp only[bx,aX,an,aw,bind_some,map_some,↓reduceIte,reduceEqDiff,reduceAdd,Nat.reduceMul,Nat.reduceLeDiff,reduceLT,ah,ao,aP,iJ (dX hlt hlen1 (by decide))];first | done | rfl) ?_;refine⟨ev.length-(k+1),_,by omega,(Fg.less uR yS),k+1,q.1,by omega,rfl,⟨hr,q1,by omega⟩,rfl⟩
 ·rw[if_neg he] at hr;refine aE (show decide (q.2=0)=false from decide_eq_false he) ?_;refine cE ?_;refine zE ?_;exact zO [.tmp 8,.tmp 9] (hq:=by (try simp only[aC,ab]);first | done | (rw[hr]))
def oe(c:List aU)(l:List bq)(ch:List Int):Int×Int:=if kY c l ch 0=true then lq c l ch 40001 else (-1,1)
def M6(c:List aU)(l:List bq)(ch:List Int):Bool:=decide ((oe c l ch).2=0)
theorem ud{c:List aU}{l:List bq}{ch:List Int}{least:Int}(h:kY c l ch least=true):l.length=ch.length:=by
 unfold kY at h;rw[Bool.and_eq_true,Bool.and_eq_true] at h;exact of_decide_eq_true h.2.1
theorem Ht(c:List aU)(l:List bq)(ch:List Int)(hc:jJ c)(hl:∀r∈l,ea r)(hlen:l.length<20)(hlc:ch.length<=1000000):PC Tryz.prog 113 [.ag [an 3 c aq],an 2 l aD,an 1 ch (az aa)] (·=.bI [aa (oe c l ch).1,aa (oe c l ch).2]):=by
 refine pB 19 Tryz.func113 ?_;refine ki ?_;refine zK (yA c l ch 0 hc hl (by omega) hlc) ?_;cases hg:kY c l ch 0
 ·refine zR ?_;refine cE ?_;refine zE ?_;exact zO [.tmp 6,.tmp 7] (hq:=by (try simp only[aC,ab]);first | done | (rw[show oe c l ch=(-1,1) by rw[oe,hg];rfl]))
 refine zR ?_;refine zN ?_;rw[show oe c l ch=lq c l ch 40001 by rw[oe,hg];rfl];have hfo:=vm c l ch 40001 hc hl hlen (ud hg);generalize lq c l ch 40001=q at hfo ⊢;refine zC ?_;refine zK hfo ?_;refine zR ?_;refine zE ?_;exact zO [.tmp 6,.tmp 7]
theorem Bl(c:List aU)(l:List bq)(ch:List Int)(hc:jJ c)(hl:∀r∈l,ea r)(hlen:l.length<20)(hlc:ch.length<=1000000):PC Tryz.prog 67 [.ag [an 3 c aq],an 2 l aD,an 1 ch (az aa)] (·=aA (M6 c l ch)):=by
 refine pB 18 Tryz.func67 ?_;have hfa:=Ht c l ch hc hl hlen hlc;unfold M6;generalize oe c l ch=q at hfa ⊢;refine ki ?_;refine zK hfa ?_;refine zR ?_;refine zV ?_;refine zE ?_;exact zO [.tmp 6]
theorem KD(l:List bq)(ch:List Int):PC Tryz.prog 111 [an 2 l aD,an 1 ch (az aa)] (·=.fn 148 [] [.ip [an 2 l aD],.ip [an 1 ch (az aa)]]):=by
 refine pB 6 Tryz.func111 ?_;refine zV ?_;refine ai.fg (Fg.freeze (f':=[(2,.ip [an 2 l aD]),(3,.ptr 1 0)]) 0 rfl (λh=>by cases h) (p6 @an.eq_1)) ?_;refine ai.fg (Fg.freeze (f':=[(2,.ip [an 2 l aD]),(3,.ip [an 1 ch (az aa)])]) 1 rfl (λh=>by cases h) (p6 @an.eq_1)) ?_
 (try change ai _ _ _ _ _)
 refine zV ?_;refine zE ?_;exact zO [.tmp 4]
def jn(n:Int)(m:Int)(e:bB):Int:=if n<0 then dR m e.day else m
def pH(m:Int)(l:List (bq×Int)):Int:=l.foldl (λm p=>p.1.opts.foldl (jn p.2) m) m
def KT(c:fP)(f1:Fm):Prop:=∀(ro:Option Nat) (f0:Fm) (day m:Int) (X:List SO) (K:Ex->List SO->Fm->Prop),K .normal (.loop c .ready none f1::.cells [aa (dR m day)]::X) f0->Q5 Tryz.prog ro c 0 [aa day] (.loop c .ready none f1::.cells [aa m]::X) f0 K
set_option maxHeartbeats 4000000 in
theorem Hq(c:fP)(f1:Fm)(hb:KT c f1)(hps:c.ps.toList.length=1)(hlow:vK c.n f1=true)(hn1:c.n<=1000000)(hpar:c.ps.toList.all (λk=>Nat.blt k c.n)=true)(hkf:∀o,2<=o->dz o f1=f1)(l:List bq)(ch:List Int)(m0:Int)(hl:∀r∈l,ea r)(hlen:l.length<=1000000)(heq:l.length=ch.length):
 SC Tryz.prog 148 [.a (.fn (.yield c.id) [] []),.ip [an 2 l aD],.ip [an 1 ch (az aa)]] [.loop c .ready none f1,.cells [aa m0]] [] (λr S'=>r=.bI []/\S'=[.loop c .ready none f1,.cells [aa (pH m0 (l.zip ch))]]):=by
 refine PQ 36 Tryz.func148 ?_;have hkA:f1.map (λp=>(p.1,bif Ev.names 2 p.2 then SV.any else p.2))=f1:=hkf 2 (le_refl _);have hkB:f1.map (λp=>(p.1,bif Ev.names 3 p.2 then SV.any else p.2))=f1:=hkf 3 (by decide);refine zV ?_
 have hz:∀{k:Nat} {r:bq} {n:Int},l[k]?=some r->ch[k]?=some n->(l.zip ch)[k]?=some (r,n):=λh1 h2=>by
  rw[List.getElem?_zip_eq_some];exact⟨h1,h2⟩
 have hzl:(l.zip ch).length=l.length:=by rw[List.length_zip,<-heq,Nat.min_self]
 refine zs ?_;refine zL l (λk=>True) (λk=>[(0,.a (.fn (.yield c.id) [] [])),(2,.ip [an 1 ch (az aa)]),(8,an 2 l aD),(9,aa l.length),(10,aa k),(1000000,.ptr 0 0),(1000001,.ptr 1 0)]) (λk=>[.loop c .ready none f1,.cells [aa (pH m0 ((l.zip ch).take k))]]) (Fg.less (by (simp only[bx,aX,cw,↓reduceIte,reduceEqDiff,an,take_zero,pH,foldl_nil])<;>(repeat' apply And.intro)<;>first | rfl | trivial) (by (simp only[bx,aX,or_true,true_or,an,take_zero,pH,foldl_nil])<;>(repeat' apply And.intro)<;>first | exact .inr rfl | exact .inl rfl | trivial)) zp ?_;intro k hk hall;refine zV ?_;by_cases hlt:k<l.length;rotate_left;obtain rfl:k=l.length:=(by omega);rw[zf];rotate_left;rw[zt hlt];obtain⟨r,hx⟩:=zx hlt;rotate_left
 ·refine zN ?_;refine ai.exit ?_;rw[<-hzl,take_length];simp only[iq,eB,df,cL,if_true];exact zP []
 have hrk:ea r:=hl r (mem_of_getElem? hx);have hr1:=hrk.len;obtain⟨n,hn⟩:∃n,ch[k]?=some n:=⟨ch[k],getElem?_eq_getElem (by omega)⟩;have ht:=bo (hz hx hn)
 have hlc2:k<ch.length:=by omega
 have hst:pH m0 ((l.zip ch).take (k+1))=r.opts.foldl (jn n) (pH m0 ((l.zip ch).take k)):=by
  unfold pH;rw[ht,List.foldl_append];rfl
 generalize pH m0 ((l.zip ch).take k)=m1 at hst;refine zY ?_
 (repeat refine ai.seq ?_)
 refine ai.block ?_;refine aE (n5 hlt (aH (e:=2) (enc:=aD) (λ_=>rfl) hx) @aD.eq_1 hkA hkB) ?_;refine zV ?_;refine zs ?_;refine zL r.opts (λk2=>True) (λk2=>[(0,.a (.fn (.yield c.id) [] [])),(2,.ip [an 1 ch (az aa)]),(4,aa k),(8,an 2 l aD),(9,aa l.length),(10,aa k),(16,an 14 r.opts aF),(17,aa r.opts.length),(18,aa k2),(1000000,.ptr 0 0),(1000001,.ptr 1 0)]) (λk2=>[.loop c .ready none f1,.cells [aa ((r.opts.take k2).foldl (jn n) m1)]]) (Fg.less (by (simp only[bx,aX,cw,↓reduceIte,reduceEqDiff,an,take_zero,foldl_nil])<;>(repeat' apply And.intro)<;>first | rfl | trivial) (by (simp only[bx,aX,or_true,true_or,an,take_zero,foldl_nil])<;>(repeat' apply And.intro)<;>first | exact .inr rfl | exact .inl rfl | trivial)) zp ?_;intro k2 hk2 hall2;refine zV ?_;by_cases hlt2:k2<r.opts.length;rotate_left;obtain rfl:k2=r.opts.length:=(by omega);rw[zf];rotate_left;rw[zt hlt2];obtain⟨e,hx2⟩:=zx hlt2;rotate_left
 ·refine zN ?_;refine ai.exit ?_;rw[take_length];refine aE (zi hlt hlen) ?_;refine zX hlt (cI hst) trivial
 have ht2:=bo hx2
 have hst2:(r.opts.take (k2+1)).foldl (jn n) m1=jn n ((r.opts.take k2).foldl (jn n) m1) e:=by rw[ht2,List.foldl_append];rfl
 generalize (r.opts.take k2).foldl (jn n) m1=m2 at hst2;refine zY ?_
 (repeat refine ai.seq ?_)
 refine ai.block ?_;refine aE (n5 hlt2 (aH (e:=14) (enc:=aF) (λ_=>rfl) hx2) @aF.eq_1 hkA hkB) ?_;cases g1:decide (n<0)
 ·rw[show jn n m2 e=m2 by unfold jn;rw[if_neg (of_decide_eq_false g1)]] at hst2;refine aE (n4 hlc2 (aH (e:=1) (enc:=az aa) (λ_=>rfl) hn) @az.eq_1 g1) ?_;refine zN ?_;refine aE (zi hlt2 hr1) ?_;refine zX hlt2 (cI hst2) trivial
 ·rw[show jn n m2 e=dR m2 e.day by unfold jn;rw[if_pos (of_decide_eq_true g1)]] at hst2;refine gl (n4 hlc2 (aH (e:=1) (enc:=az aa) (λ_=>rfl) hn) @az.eq_1 g1) ?_;refine aM.yR (vs:=[aa e.day]) 0 (by rfl) rfl rfl (by rfl) rfl rfl rfl (by rfl) rfl hps hlow hn1 hpar λro'=>hb _ _ _ _ _ _ ?_;refine zR ?_;refine zN ?_;refine aE (zi hlt2 hr1) ?_;refine zX hlt2 (cI hst2) trivial
def tW(c:List aU)(l:List bq)(ch:List Int):Bool:=kY c l ch (-1)&&!(decide ((lq c l ch (pH 40001 (l.zip ch))).2=0))
set_option maxHeartbeats 4000000 in
theorem CE(c:List aU)(l:List bq)(ch:List Int)(hc:jJ c)(hl:∀r∈l,ea r)(hlen:l.length<20)(hlc:ch.length<=1000000):PC Tryz.prog 66 [.ag [an 3 c aq],an 2 l aD,an 1 ch (az aa)] (·=aA (tW c l ch)):=by
 refine PC.qM (n:=33) dP Tryz.func66 rfl rfl (by decide) ?_;refine ki ?_;refine zK (yA c l ch (-1) hc hl (by omega) hlc) ?_;cases hg:kY c l ch (-1)
 ·refine zR ?_;refine cE ?_;refine ai.ret ?_
  (try simp only[iq,eB,df,cL])
  exact⟨rfl,[aA false],aA false,by rfl,Wk.refl rfl,by rw[tW,hg];rfl⟩
 have heq:=ud hg;refine zR ?_;refine gX ?_;refine ai.fg (Fg.freeze (f':=[(1,an 2 l aD),(2,an 1 ch (az aa)),(3,.ip [an 3 c aq]),(7,.ptr 1 0)]) 0 rfl (λh=>by cases h) (p6 @an.eq_1)) ?_
 (try change ai _ _ _ _ _)
 refine zC ?_;refine zK (KD l ch) ?_ (hfl:=.inr (bn.refl rfl));refine zR ?_
 (repeat refine ai.seq ?_)
 refine ai.block ?_;refine ai.sO (f1:=[(1,an 2 l aD),(2,an 1 ch (az aa)),(3,.ip [an 3 c aq]),(7,.ptr 1 0)]) dP (by rfl) Tryz.func148 (by rfl) uR ?_;rintro N lc hid hn hps ha hb
 have hrd:KT lc [(1,an 2 l aD),(2,an 1 ch (az aa)),(3,.ip [an 3 c aq]),(7,.ptr 1 0)]:=by
  intro ro f0 day m X K hK pend f1 hS;cases hS;rw[ha,hps,hn];change ai _ _ _ ⟨(19,aa day)::(1,an 2 l aD)::(2,an 1 ch (az aa))::(3,.ip [an 3 c aq])::(7,.ptr 1 0)::Jt laid f0,33,_,[]⟩ _;refine zV ?_;refine⟨rfl,none,[(1,an 2 l aD),(2,an 1 ch (az aa)),(3,.ip [an 3 c aq]),(7,.ptr 1 0)],rfl,?_⟩;rw[hb]
  (repeat refine ai.seq ?_)
  refine ai.block ?_;refine aE @gQ ?_;refine⟨rfl,.busy,none,[(1,an 2 l aD),(2,an 1 ch (az aa)),(3,.ip [an 3 c aq]),(7,.ptr 1 0)],rfl,?_⟩;simp only[tD,Ix,laid,Nat.reduceLeDiff,↓reduceIte,tU,tS,List.set_cons_zero];exact hK
 have hsc:=Hq lc [(1,an 2 l aD),(2,an 1 ch (az aa)),(3,.ip [an 3 c aq]),(7,.ptr 1 0)] hrd (by rw[hps];rfl) (by rw[hn];rfl) (by rw[hn];decide) (by rw[hps,hn];rfl) (λo ho=>by
  have h1:¬1=o:=by omega
  simp[dz,bf,h1,Ev.names,an,fF]) l ch 40001 hl (by omega) heq
 refine⟨[3,1],_,_,_,_,hsc,?_,rfl,by decide,?_,?_⟩
 ·simp only[ec,aX,bx,an,dz,bf,↓reduceIte,reduceEqDiff,reduceAdd,Nat.reduceSub,hid,List.map,List.append,cons_append,nil_append]
 ·rintro(_ | _ | i) so h
  ·cases h;exact⟨3,rfl,by rfl⟩
  ·cases h;exact⟨1,rfl,by rfl⟩
  ·cases h
 rintro r S' ⟨rfl,rfl⟩;refine⟨by simp only[vN,ec,aX,an,reduceAdd,reduceLT,decide_true];first | done | rfl,3,.ready,none,[(1,an 2 l aD),(2,an 1 ch (az aa)),(3,.ip [an 3 c aq]),(7,.ptr 1 0)],by rfl,by decide,by rfl,?_⟩;change ai _ _ _ ⟨[(1,an 2 l aD),(2,an 1 ch (az aa)),(3,.ip [an 3 c aq]),(7,.ptr 1 0)],33,[.gone,.cells [aa (pH 40001 (l.zip ch))],.ni N,.gone],[{ fn:=none,Db:=N,args:=[],cap:=[] }]⟩ _;obtain⟨day,hday⟩:∃day,day=pH 40001 (l.zip ch):=⟨_,rfl⟩
 have hF:tW c l ch=!(decide ((lq c l ch day).2=0)):=by rw[tW,hg,hday];rfl
 rw[hF,<-hday];have hfo:=vm c l ch day hc hl hlen heq;generalize lq c l ch day=q at hfo;refine zC ?_;refine zK hfo ?_;refine zR ?_;refine zV ?_;refine ai.ret ?_
 (try simp only[iq,eB,df,cL])
 exact⟨rfl,[(6,aA (!decide (q.2=0)))],⟨rfl,trivial⟩,rfl,.inl ⟨rfl,2,rfl,[aA (!decide (q.2=0))],aA (!decide (q.2=0)),by rfl,Wk.refl rfl,rfl⟩⟩
end Go.Proofs
