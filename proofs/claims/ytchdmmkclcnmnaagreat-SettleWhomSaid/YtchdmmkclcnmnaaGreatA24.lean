/- Lemmas of this claim, each with its conditions. -/
import Derived.Test.YtchdmmkclcnmnaaGreatA23
import Derived.Test.YtchdmmkclcnmnaaGreatA22
import Derived.Test.YtchdmmkclcnmnaaGreatA19
import Derived.Test.YtchdmmkclcnmnaaGreatA16
set_option linter.all false
open List (Perm append_nil)
open Nat (ble)
open List renaming getElem?_eq_getElem -> aa, length_set -> ac, flatMap_cons -> ad, mem_of_getElem? -> af, set_eq_take_append_cons_drop -> aj, drop_of_length_le -> ap, replicate -> aR, length_take -> a0, getElem?_drop -> a3, getElem?_cons_succ -> a4, getElem?_eq_none -> a6, nil_append -> a8, flatMap_append -> a9, getElem?_take -> bb, getElem?_set -> bc, cons_append -> be, take_append -> bh, drop_drop -> bi
open Nat renaming le_refl -> al, zero_le -> a5, sub_zero -> a7, lt_irrefl -> ba, succ_mul -> bd, add_comm -> bk, lt_or_ge -> bo, sub_self -> bs
open Option renaming bind_some -> aS
namespace Go.Proofs
open Go.Ev
set_option maxRecDepth 100000
section
variable {α:Type} {enc:α->List SV} {e:Nat}
def hY(he:∀x,(enc x).length=e):∀(l:List α) (i:Nat),(l.flatMap enc).take (i*e)=(l.take i).flatMap enc
 | [],i=>by simp
 | a::l,0=>by simp
 | a::l,i+1=>by
  rw[ad,bd,bk,List.take_succ_cons,ad,<-hY he l i];rw[bh,he,show e+i*e-e=i*e by omega,List.take_of_length_le (by rw[he];omega)]
def kK(he:∀x,(enc x).length=e):∀(l:List α) (i:Nat),(l.flatMap enc).drop (i*e)=(l.drop i).flatMap enc
 | [],i=>by simp
 | a::l,0=>by simp
 | a::l,i+1=>by
  rw[ad,bd,bk,List.drop_succ_cons,<-kK he l i];rw[List.drop_append,he,show e+i*e-e=i*e by omega,ap (by rw[he];omega),a8]
def gB(he:∀x,(enc x).length=e){l:List α}{i:Nat}(y:α)(h:i<l.length):(l.flatMap enc).take (i*e)++(enc y++(l.flatMap enc).drop (i*e+e))=(l.set i y).flatMap enc:=by
 rw[hY he,show i*e+e=(i+1)*e by rw[bd],kK he,aj,ul h,a9,ad]
end
def pV{α:Type}(lt:α->α->Bool):Nat->List α->List α
 | 0,l=>l
 | j+1,l=>match l[j+1]?,l[j]? with
  | some x,some y=>if lt x y=true then pV lt j ((l.set (j+1) y).set j x) else l
  | _,_=>l
def xo{α:Type}(lt:α->α->Bool):Nat->Nat->List α->List α
 | 0,_,l=>l
 | n+1,i,l=>xo lt n (i+1) (pV lt i l)
def qx{α:Type}(lt:α->α->Bool)(l:List α):List α:=xo lt (l.length-1) 1 l
def Fk{α:Type}{lt:α->α->Bool}:∀(j:Nat) (l:List α),(pV lt j l).length=l.length
 | 0,l=>rfl
 | j+1,l=>by
  unfold pV;split
  ·split
   ·rw[Fk j,ac,ac]
   ·rfl
  ·rfl
def FU{α:Type}{lt:α->α->Bool}:∀(n i:Nat) (l:List α),(xo lt n i l).length=l.length
 | 0,_,_=>rfl
 | n+1,i,l=>by rw[xo,FU n,Fk]
def yS{α:Type}(lt:α->α->Bool)(l:List α):(qx lt l).length=l.length:=FU _ _ _
def swap_perm{α:Type}{l:List α}{j:Nat}{x y:α}(hx:l[j+1]?=some x)(hy:l[j]?=some y):((l.set (j+1) y).set j x).Perm l:=by
 have h1:j+1<l.length:=bD hx
 have h0:j<l.length:=by omega
 have e:l=l.take j++(y::x::l.drop (j+2)):=by
  have a1:l.drop j=y::l.drop (j+1):=ft hy;have a2:l.drop (j+1)=x::l.drop (j+2):=ft hx;rw[<-a2,<-a1,List.take_append_drop]
 have hlt:(l.take j).length=j:=by rw[a0];omega
 have e2:(l.set (j+1) y).set j x=l.take j++(x::y::l.drop (j+2)):=by
  apply List.ext_getElem?;intro i;rw[bc,List.getElem?_append,hlt];by_cases c1:j=i
  ·subst c1;rw[ul rfl,ac,ul h0,un (ba _),bs];rfl
  ·rw[un c1,bc];by_cases c2:j+1=i
   ·subst c2;rw[ul rfl,ul h1,un (by omega),show j+1-j=1 by omega];rfl
   ·rw[un c2];by_cases c3:i<j
    ·rw[ul c3,bb,ul c3]
    ·rw[un c3,show i-j=(i-(j+2))+2 by omega,a4,a4,a3,show j+2+(i-(j+2))=i by omega]
 rw[e2]
 conv=>rhs;rw[e]
 exact Perm.append_left _ (Perm.swap _ _ _)
def BI{α:Type}{lt:α->α->Bool}:∀(j:Nat) (l:List α),(pV lt j l).Perm l
 | 0,l=>Perm.refl _
 | j+1,l=>by
  unfold pV;split
  ·rename_i x y hx hy;split
   ·exact(BI j _).trans (swap_perm hx hy)
   ·exact Perm.refl _
  ·exact Perm.refl _
def B6{α:Type}{lt:α->α->Bool}:∀(n i:Nat) (l:List α),(xo lt n i l).Perm l
 | 0,_,_=>Perm.refl _
 | n+1,i,l=>by rw[xo];exact(B6 n (i+1) _).trans (BI i l)
def B5{α:Type}(lt:α->α->Bool)(l:List α):(qx lt l).Perm l:=B6 _ _ _
def rQ(cmp:bJ->bJ->Int)(x y:bJ):Bool:=decide (cmp x y<0)
set_option maxHeartbeats 2000000 in
def Jq(g:FuncId)(cmp:bJ->bJ->Int)(hg:∀x y,PC Tryz.prog g [.ag (aF x),.ag (aF y)] (·=ab (cmp x y)))(c:Option Nat)(l:List bJ)(hlen:l.length<=100000):
 SC Tryz.prog 219 [.buf 0 l.length 14 c,ab 0,ab l.length,.fn g [] []] [.cells (l.flatMap aF)] [] (λr S'=>r=.bE []/\S'=[.cells ((qx (rQ cmp) l).flatMap aF)]):=by
 refine GU 53 Tryz.func219 ?_;refine zV ?_
 (repeat refine ar.seq ?_)
 refine ar.block (ar.loop (λm st=>∃(i:Nat) (q:List bJ),(q.length=l.length/\(i+1<=l.length\/i=0))/\qx (rQ cmp) l=xo (rQ cmp) (l.length-(i+1)) (i+1) q/\l.length-i=m/\st=⟨[(0,.buf 0 l.length 14 c),(1,ab 0),(2,ab l.length),(3,.fn g [] []),(8,cx (i+1)),(1000000,.ptr 0 0)],53,[.cells (q.flatMap aF)],[]⟩) l.length zH ⟨0,l,⟨rfl,.inr rfl⟩,rfl,a7 _,rfl⟩ (by rintro m st ⟨i,q,_,_,_,rfl⟩;rfl) ?_);rintro m st ⟨i,q,⟨hql,hi⟩,hres,rfl,rfl⟩;refine zV ?_;by_cases hlt:i+1<l.length;rotate_left
 ·rw[show decide (((i+1:Nat):Int)<(l.length:Int))=false by simp only[wp];omega];refine zN ?_;refine ar.fg (st':=⟨[(1000000,.ptr 0 0)],53,[.cells (q.flatMap aF)],[]⟩) zH ?_;refine ar.exit ?_;simp only[fV,dS,cE,cq,if_true];rw[show l.length-(i+1)=0 by omega,xo] at hres;exact zP [] (hq:=by (try simp only[dh,aW]);first | done | (rw[hres];first | exact⟨rfl,rfl⟩ | exact⟨trivial,rfl⟩ | exact⟨rfl,trivial⟩ | exact⟨trivial,trivial⟩))
 rw[show decide (((i+1:Nat):Int)<(l.length:Int))=true by simp only[wr];omega];refine eQ ?_;refine zV ?_;obtain⟨s,hs⟩:∃s,l.length-(i+1)=s+1:=⟨l.length-(i+1)-1,by omega⟩;rw[hs,xo] at hres
 (repeat refine ar.seq ?_)
 refine ar.block (ar.loop (λm st=>∃(j:Nat) (p:List bJ),(p.length=l.length/\j<=i+1)/\pV (rQ cmp) (i+1) q=pV (rQ cmp) j p/\j=m/\st=⟨[(0,.buf 0 l.length 14 c),(1,ab 0),(2,ab l.length),(3,.fn g [] []),(8,cx (i+1)),(9,cx j),(1000000,.ptr 0 0)],53,[.cells (p.flatMap aF)],[]⟩) (i+1) zH ⟨i+1,q,⟨hql,al _⟩,rfl,rfl,rfl⟩ (by rintro m st ⟨j,p,_,_,_,rfl⟩;rfl) ?_);rintro m st ⟨j,p,⟨hpl,hj⟩,hb,rfl,rfl⟩;have hil:i+1<l.length:=hlt
 have hcl:(p.flatMap aF).length=l.length*14:=by rw[aJ cT,hpl]
 cases j with
 | zero=>
  refine zs ?_;refine oz [0,0,3,7,15,15,15,111,239,15,15,1039,3599,7695,16383,32767,65535] ?_;refine ni (show decide ((0:Int)<((0:Nat):Int))=false from rfl) ?_;refine zM ?_;refine dZ ?_;refine aC (p9 (show -9223372036854775808<=((i+1:Nat):Int)+1/\((i+1:Nat):Int)+1<=9223372036854775807 from⟨by omega,by omega⟩)) ?_;exact⟨l.length-(i+1),_,by omega,zH,i+1,p,⟨hpl,.inl (by omega)⟩,by rw[hres,hb,pV,show l.length-(i+1+1)=s by omega],rfl,rfl⟩
 | succ j=>
  have hj1:j+1<l.length:=by omega
  have hj0:j<l.length:=by omega
  obtain⟨x,hx⟩:∃x,p[j+1]?=some x:=⟨p[j+1],aa (by omega)⟩;obtain⟨y,hy⟩:∃y,p[j]?=some y:=⟨p[j],aa (by omega)⟩;have ax:((p.flatMap aF).drop ((j+1)*14)).take 14=aF x:=aG (e:=14) (enc:=aF) cT hx;have ay:((p.flatMap aF).drop (j*14)).take 14=aF y:=aG (e:=14) (enc:=aF) cT hy
  have hbs:pV (rQ cmp) (j+1) p=if rQ cmp x y=true then pV (rQ cmp) j ((p.set (j+1) y).set j x) else p:=by rw[pV,hx,hy]
  have s1:=gB (enc:=aF) cT (l:=p) (i:=j+1) y (by omega);have s2:=gB (enc:=aF) cT (l:=p.set (j+1) y) (i:=j) x (by rw[ac];omega)
  have hcl2:((p.set (j+1) y).flatMap aF).length=l.length*14:=by rw[aJ cT,ac,hpl]
  rw[dx y] at s1 ay;rw[dx x] at s2 ax;simp only[be,a8] at s1 s2;have hgx:=hg x y;rw[dx y,dx x] at hgx;refine zs ?_;refine oz [0,0,3,7,15,15,15,111,239,15,15,1039,3599,7695,16383,32767,65535] ?_;refine ni (n10 (show decide ((0:Int)<((j+1:Nat):Int))=true from by simp only[wr];omega) hj1 hj0 (Lo (show -9223372036854775808<=((j+1:Nat):Int)-1/\((j+1:Nat):Int)-1<=9223372036854775807 from⟨by omega,by omega⟩)) (show((j+1:Nat):Int)-1=(j:Int) from by omega) hcl (show(j+1)*14+14<=l.length*14 by omega) (show j*14+14<=l.length*14 by omega) ax ay) ?_;refine SD.k (by rfl) rfl rfl (by rfl) rfl rfl zc (hgx) (zw) rfl ?_;cases hc:decide (cmp x y<0)
  ·rw[rQ,hc,un (by decide)] at hbs;refine ni hc ?_;refine zM ?_;refine dZ ?_;refine aC (p9 (show -9223372036854775808<=((i+1:Nat):Int)+1/\((i+1:Nat):Int)+1<=9223372036854775807 from⟨by omega,by omega⟩)) ?_;exact⟨l.length-(i+1),_,by omega,zH,i+1,p,⟨hpl,.inl (by omega)⟩,by rw[hres,hb,hbs,show l.length-(i+1+1)=s by omega],rfl,rfl⟩
  ·rw[rQ,hc,ul rfl] at hbs;refine ni hc ?_;refine zM ?_;refine eQ ?_;refine zs ?_;refine oz [0,0,0,0,8,0,0,64,224,480,0,0,3072,7168,16355,32739,65535,131071] ?_;refine ni (n9 hj1 hj0 (Lo (show -9223372036854775808<=((j+1:Nat):Int)-1/\((j+1:Nat):Int)-1<=9223372036854775807 from⟨by omega,by omega⟩)) (show((j+1:Nat):Int)-1=(j:Int) from by omega) hcl (show(j+1)*14+14<=l.length*14 by omega) (show j*14+14<=l.length*14 by omega) ax ay) ?_;refine SD.e (by rfl) rfl (by rfl) rfl rfl (by rfl) (gQ (n3 hcl (show(j+1)*14+14<=l.length*14 by omega) s1)) ?_;refine ni (n4 hj1 hj0 (Lo (show -9223372036854775808<=((j+1:Nat):Int)-1/\((j+1:Nat):Int)-1<=9223372036854775807 from⟨by omega,by omega⟩)) (show((j+1:Nat):Int)-1=(j:Int) from by omega)) ?_;refine SD.e (by rfl) rfl (by rfl) rfl rfl (by rfl) (gQ (n3 hcl2 (show j*14+14<=l.length*14 by omega) s2)) ?_;refine zM ?_;refine aC (n2 (Lo (show -9223372036854775808<=((j+1:Nat):Int)-1/\((j+1:Nat):Int)-1<=9223372036854775807 from⟨by omega,by omega⟩)) (show((j+1:Nat):Int)-1=(j:Int) from by omega)) ?_;exact⟨j,_,by omega,zH,j,(p.set (j+1) y).set j x,⟨by rw[ac,ac,hpl],by omega⟩,by rw[hb,hbs],rfl,rfl⟩
def Hy(g:FuncId)(cmp:bJ->bJ->Int)(hg:∀x y,PC Tryz.prog g [.ag (aF x),.ag (aF y)] (·=ab (cmp x y)))(c:Option Nat)(l:List bJ)(hlen:l.length<20):
 SC Tryz.prog 180 [.buf 0 l.length 14 c,ab l.length,.fn g [] []] [.cells (l.flatMap aF)] [] (λr S'=>r=.bE []/\S'=[.cells ((qx (rQ cmp) l).flatMap aF)]):=by
 have hins:=Jq g cmp hg c l (by omega);have hrc:∀(g:Nat->Nat) (l:List bJ),kh g (l.flatMap aF)=l.flatMap aF:=λg l=>aY (aB cY l);have hbc:∀(B:Nat) (l:List bJ),fq B (l.flatMap aF)=true:=λB l=>bC (aB cY l);have hkc:∀(o:Nat) (l:List bJ),(l.flatMap aF).map (bf o)=l.flatMap aF:=λo l=>aZ cY o l
 have h1:decide ((20:Int)<=(l.length:Int))=false:=by simp only[wp];omega
 have h2:decide ((20:Int)<(l.length:Int))=false:=by simp only[wp];omega
 refine GU 63 Tryz.func180 ?_;refine lC ?_
 (repeat refine ar.seq ?_)
 refine ar.block (ar.loop (λm st=>m=0/\st=⟨[(0,.buf 0 l.length 14 c),(1,ab l.length),(2,.fn g [] []),(6,ab 20),(7,ab 0),(8,ab 20),(1000000,.ptr 0 0)],63,[.cells (l.flatMap aF)],[]⟩) 0 zH ⟨rfl,rfl⟩ (by rintro m st ⟨_,rfl⟩;rfl) ?_);rintro m st ⟨rfl,rfl⟩;refine aC h1 ?_;refine dZ ?_
 (try change ar _ _ _ _ _)
 refine zC ?_;refine zS [0] (n3 hrc hbc hkc) hins ?_;refine zR ?_
 (repeat refine ar.seq ?_)
 refine ar.block (ar.loop (λm st=>m=0/\st=⟨[(1,ab l.length),(6,ab 20),(1000000,.ptr 0 0)],63,[.cells ((qx (rQ cmp) l).flatMap aF)],[]⟩) 0 zH ⟨rfl,rfl⟩ (by rintro m st ⟨_,rfl⟩;rfl) ?_);rintro m st ⟨rfl,rfl⟩;refine aC h2 ?_;refine dZ ?_;simp only[fV,dS,cE,cq,if_true];exact zP []
def Bz(g:FuncId)(cmp:bJ->bJ->Int)(hg:∀x y,PC Tryz.prog g [.ag (aF x),.ag (aF y)] (·=ab (cmp x y)))(c:Option Nat)(l:List bJ)(hlen:l.length<20):
 SC Tryz.prog 122 [.buf 0 l.length 14 c,.fn g [] []] [.cells (l.flatMap aF)] [] (λr S'=>r=.bE []/\S'=[.cells ((qx (rQ cmp) l).flatMap aF)]):=by
 have hins:=Hy g cmp hg c l hlen;have hrc:∀(g:Nat->Nat) (l:List bJ),kh g (l.flatMap aF)=l.flatMap aF:=λg l=>aY (aB cY l);have hbc:∀(B:Nat) (l:List bJ),fq B (l.flatMap aF)=true:=λB l=>bC (aB cY l);have hkc:∀(o:Nat) (l:List bJ),(l.flatMap aF).map (bf o)=l.flatMap aF:=λo l=>aZ cY o l;refine GU 9 Tryz.func122 ?_;refine zC ?_;refine zS [0] (n3 hrc hbc hkc) hins ?_;refine zR ?_;exact zP []
def CK(a:Int):PC Tryz.prog 123 [ab a] (·=az false):=by
 refine pB 6 Tryz.func123 ?_;refine zV ?_;refine aC (show decide (a=a)=true from wd rfl) ?_;exact zo [.tmp 2]
def CL(a:List Nat):PC Tryz.prog 185 [ae a] (·=az false):=by
 refine pB 6 Tryz.func185 ?_;refine zV ?_;refine aC (show decide (a=a)=true from wd rfl) ?_;exact zo [.tmp 2]
def Nx(a b:Int):Int:=if a<b then -1 else if b<a then 1 else 0
def Bn(a b:Int):PC Tryz.prog 80 [ab a,ab b] (·=ab (Nx a b)):=by
 refine pB 20 Tryz.func80 ?_;refine kD ?_;refine zK (CK a) ?_;refine zR ?_;refine zC ?_;refine zK (CK b) ?_;refine zR ?_;refine H2 ?_;refine H2 ?_;cases h1:decide (a<b);rotate_left
 ·refine aC h1 ?_;refine cL ?_;exact zo [.tmp 4] (hq:=by rw[Nx,ul (ww h1)])
 refine aC h1 ?_;refine zN ?_;cases h2:decide (b<a);rotate_left
 ·refine aC h2 ?_;refine cL ?_;exact zo [.tmp 4] (hq:=by rw[Nx,un (wt h1),ul (ww h2)])
 refine aC h2 ?_;refine iK ?_;exact zo [.tmp 4] (hq:=by rw[Nx,un (wt h1),un (wt h2)])
def rO(a b:List Nat):Int:=if gJ a b=true then -1 else if a=b then 0 else 1
def sd(a b:List Nat):PC Tryz.prog 129 [ae a,ae b] (·=ab (rO a b)):=by
 refine pB 20 Tryz.func129 ?_;refine kD ?_;refine zK (CL a) ?_;refine zR ?_;refine zC ?_;refine zK (CL b) ?_;refine zR ?_;refine H2 ?_;refine H2 ?_;cases h1:gJ a b;rotate_left
 ·refine aC h1 ?_;refine cL ?_;exact zo [.tmp 4] (hq:=by rw[rO,ul h1])
 refine aC h1 ?_;refine zN ?_;by_cases h2:a=b
 ·refine aC (n2 h1 (show uN a b=true by rw[mG];exact wd h2)) ?_;refine iK ?_;exact zo [.tmp 4] (hq:=by rw[rO,un (by rw[h1];decide),ul h2])
 ·refine aC (n2 h1 (show uN a b=false by rw[mG];exact ut h2)) ?_;refine cL ?_;exact zo [.tmp 4] (hq:=by rw[rO,un (by rw[h1];decide),un h2])
def yv(a b:bJ):Int:=Nx a.day b.day
def JQ(a b:bJ):PC Tryz.prog 79 [.ag (aF a),.ag (aF b)] (·=ab (yv a b)):=by
 refine pB 10 Tryz.func79 ?_;refine aC @aF.eq_1 ?_;refine zC ?_;refine zK (Bn a.day b.day) ?_;refine zR ?_;exact zo [.tmp 4]
def bJ.wh:List AV:=[.int .i64 0,.int .i64 0,.str [],.str [],.str [],.str [],.str [],.str [],.int .i64 0,.int .i64 0,.int .i64 0,.int .i64 0,.int .i64 0,.int .i64 0]
def MN(n:Nat)(h:n<=1000000):ic Tryz.prog 59 (.int .i64 (n:Int)) (.int .i64 (n:Int))=some (n,14,n,rep bJ.wh n):=by
 have q1:(Tryz.prog.info? 58).map (λi=>(i.size,ble i.bytes 10000))=some (14,true):=by kernel_rfl
 obtain⟨i,hi,e⟩:=Option.map_eq_some_iff.1 q1;have e1:i.size=14:=congrArg Prod.fst e;have e2:ble i.bytes 10000=true:=congrArg Prod.snd e;unfold ic;rw[show Tryz.prog.underlying 59=some (.slice 58) by kernel_rfl];simp only;rw[show di (.int .i64 (n:Int))=some n from rfl,aS,aS,hi,aS,show du Tryz.prog 58=some (.agg bJ.wh) by simp only[aw];rfl,aS,e1,e2,eN (al n),eN h];rfl
def sJ:∀n,(rep bJ.wh n).map SV.a=(aR n bJ.zero).flatMap aF
 | 0=>rfl
 | n+1=>by rw[rep,List.map_append,sJ n,List.replicate_succ,ad];rfl
def gE(l:List bJ):List bJ:=qx (rQ yv) l
def By(l:List bJ)(hlen:l.length<20):PC Tryz.prog 78 [ak 14 l aF,.fn 79 [] []] (·=ak 14 (gE l) aF):=by
 have hst:=Bz 79 yv JQ (some l.length) l hlen;have hrc:∀(g:Nat->Nat) (l:List bJ),kh g (l.flatMap aF)=l.flatMap aF:=λg l=>aY (aB cY l);have hbc:∀(B:Nat) (l:List bJ),fq B (l.flatMap aF)=true:=λB l=>bC (aB cY l);have hkc:∀(o:Nat) (l:List bJ),(l.flatMap aF).map (bf o)=l.flatMap aF:=λo l=>aZ cY o l;refine pB 16 Tryz.func78 ?_;have hcl:=aJ cT l
 have hzl:((aR l.length bJ.zero).flatMap aF).length=l.length*14:=by rw[aJ cT,List.length_replicate]
 refine zV ?_;refine aC (n3 (MN l.length (by omega)) @sJ hkc) ?_
 (repeat refine ar.seq ?_)
 refine ar.mono (Q:=λe st=>e=.normal/\Fg st ⟨[(1,.fn 79 [] []),(5,.buf 0 l.length 14 (some l.length))],16,[.cells (l.flatMap aF)],[]⟩) ?_ ?_
 ·by_cases h0:l.length=0
  ·have hl:l=[]:=List.length_eq_zero_iff.1 h0;subst hl;refine zV ?_;exact⟨rfl,zH⟩
  ·have htk:(l.flatMap aF).take (l.length*14)=l.flatMap aF:=cV cT l;have hmin:Nat.min l.length l.length=l.length:=Nat.min_self _;have hdr:((aR l.length bJ.zero).flatMap aF).drop (l.length*14)=[]:=ap (by rw[hzl];exact al _);refine aC (n10 h0 hmin htk hzl hcl @al @Kr hdr @Nat.zero_add @append_nil.{0}) ?_;exact⟨rfl,zH⟩
 rintro e st ⟨rfl,hfg⟩;refine ar.fg hfg ?_;clear hfg
 (try change ar _ _ _ _ _)
 have hsl:(gE l).length=l.length:=by unfold gE;exact yS _ _
 refine zC ?_;refine zS [0] (n3 hrc hbc hkc) hst ?_;refine zR ?_;refine zV ?_;exact zo [.tmp 4] (r:=.sl l.length 14 ((gE l).flatMap aF)) (hw:=.buf rfl (by rw[<-hsl];rw[show qx (rQ yv) l=gE l from rfl,cV cT];exact bp.refl (aB cY _)) (by rw[show qx (rQ yv) l=gE l from rfl,aJ cT,hsl];exact al _)) (hq:=by rw[ak,hsl])
def Hw(l:List bJ)(hlen:l.length<20):PC Tryz.prog 42 [ak 14 l aF] (·=ak 14 (gE l) aF):=by
 refine pB 5 Tryz.func42 ?_;refine kD ?_;refine zK (By l hlen) ?_ (hfl:=.inr (bp.refl rfl));refine zR ?_;exact zo [.tmp 2] (r:=ak 14 (gE l) aF) (hw:=Wk.refl rfl)
def AK{l:List (bJ)}(p:bJ->Bool){fid:FuncId}{first cap:List SV}(hlen:l.length<=1000000)(hp:∀x∈l,PC Tryz.prog fid ((first++[.ag (aF x)])++cap) (·=az (p x)))(hg:cr first=true/\cr cap=true):PC Tryz.prog 77 [ak 14 l aF,.fn fid first cap] (·=ab (js p l)):=by
 refine pB 19 Tryz.func77 ?_;refine aC @ak.eq_1 ?_;refine zV ?_;refine zs ?_;refine zL l (λk=>∀(i:Nat) y,i<k->l[i]?=some y->p y=false) (λk=>[(0,.sl l.length 14 (l.flatMap aF)),(1,.fn fid first cap),(7,ab l.length),(8,ab k)]) (λk=>[]) zH zp ?_;intro k hk hall;refine zT l k ?_ ?_;rintro rfl;rotate_left;intro x hx hlt;rotate_left
 ·refine dZ ?_;refine zV ?_;exact zo [.tmp 4] (hq:=by rw[iC hall])
 ·refine eQ ?_;refine zV ?_;refine gG (n3 hlt (aG (e:=14) (enc:=aF) (λ_=>rfl) hx) @aF.eq_1) ?_;refine zK (hp x (List.mem_iff_getElem?.2 ⟨k,hx⟩)) ?_ (hwk:=((bp.refl hg.1).app (bp.refl rfl)).app (bp.refl hg.2));refine aI.nil ?_;change ar _ _ _ _ _;cases hpx:p x
  ·refine zN ?_;refine aC (zi hlt hlen) ?_;refine zX hlt zH ?_;intro i y hi hy;by_cases hik:i=k
   ·subst hik;rw[hx] at hy;cases hy;exact hpx
   ·exact hall i y (by omega) hy
  ·refine cL ?_;exact zo [.tmp 4] (hq:=by rw[lY hx hpx hall])
def xe:∀n,(rep bJ.wh n).all jZ=true
 | 0=>rfl
 | n+1=>by rw[rep,List.all_append,xe n];rfl
def LP{α:Type}{p:α->Bool}{l:List α}(h:js p l ≠ -1):∃(k:Nat) (x:α),js p l=(k:Int)/\l[k]?=some x/\p x=true/\∀(i:Nat) y,i<k->l[i]?=some y->p y=false:=by
 unfold js at h ⊢
 cases hf:l.findIdx? p with
 | none=>rw[hf] at h;exact t8 rfl h
 | some k=>
  rw[List.findIdx?_eq_some_iff_getElem] at hf;obtain⟨hlt,h1,h2⟩:=hf;refine⟨k,l[k],rfl,aa hlt,h1,λi y hi hy=>?_⟩;have:=h2 i hi;rw[aa (by omega)] at hy;cases hy;simpa using this
def LQ{α:Type}{p:α->Bool}{l:List α}(h:js p l = -1):∀x∈l,p x=false:=by
 unfold js at h
 cases hf:l.findIdx? p with
 | none=>
  rw[List.findIdx?_eq_none_iff] at hf;exact hf
 | some k=>rw[hf] at h;simp only at h;omega
def fh(d:bJ->Bool)(l:List bJ):List bJ:=l.filter λx=>!d x
def N0(d:bJ->Bool)(l:List bJ):(fh d l).length<=l.length:=List.length_filter_le _ _
def FW{d:bJ->Bool}{l:List bJ}(h:∀x∈l,d x=false):fh d l=l:=by
 unfold fh;rw[List.filter_eq_self];intro x hx;rw[h x hx];rfl
def B7{d:bJ->Bool}{l:List bJ}{j:Nat}{x:bJ}(h:l[j]?=some x):fh d (l.take (j+1))=fh d (l.take j)++(if d x=true then [] else [x]):=by
 unfold fh;rw[br h,List.filter_append];cases hd:d x<;>simp[hd]
def Jg(g:FuncId)(c2:List SV)(hg:cr c2=true)(d:bJ->Bool)(hp:∀x,PC Tryz.prog g [.ag (aF x),.ip c2] (·=az (d x))):
 SC Tryz.prog 39 [.e0 14,.fn g [] [.ptr 0 0]] [.cells c2] [] (λr S'=>r=.e0 14/\S'=[.cells c2]):=by
 have hidx:=AK (l:=[]) d (fid:=g) (first:=[]) (cap:=[.ip c2]) (by simp) (λx hx=>hp x) ⟨rfl,rfl⟩;rw[show js d [] = -1 from rfl] at hidx;refine GU 42 Tryz.func39 ?_;refine kD ?_;refine zK hidx ?_ (hwk:=.cons (.TM 14) (.cons (.fn .nil (.cons (.ptr rfl (bp.refl hg) (a5 _)) .nil)) .nil));refine zR ?_;refine xd ?_;refine zV ?_;refine zE ?_;exact MV.of (rs:=[.tmp 4]) rfl rfl zl UW zd zg
set_option maxHeartbeats 1000000 in
def Jh(g:FuncId)(c2:List SV)(hg:cr c2=true)(d:bJ->Bool)(hp:∀x,PC Tryz.prog g [.ag (aF x),.ip c2] (·=az (d x)))(l:List bJ)(hlen:l.length<=100000):
 SC Tryz.prog 39 [.buf 0 l.length 14 none,.fn g [] [.ptr 1 0]] [.cells (l.flatMap aF),.cells c2] [] (λr S'=>r=.buf 0 (fh d l).length 14 none/\S'=[.cells ((fh d l++aR (l.length-(fh d l).length) bJ.zero).flatMap aF),.cells c2]):=by
 have hidx:=AK (l:=l) d (fid:=g) (first:=[]) (cap:=[.ip c2]) (by omega) (λx hx=>hp x) ⟨rfl,rfl⟩;have hkc:∀(o:Nat) (l:List bJ),(l.flatMap aF).map (bf o)=l.flatMap aF:=λo l=>aZ cY o l;have hk2:∀o:Nat,c2.map (bf o)=c2:=λo=>bI hg;refine Sm 42 Tryz.func39 ?_;refine kD ?_;refine zK hidx ?_ (hwk:=.cons (.buf rfl (by rw[cV cT];exact bp.refl (aB cY l)) (by rw[aJ cT];exact al _)) (.cons (.fn .nil (.cons (.ptr rfl (bp.refl hg) (a5 _)) .nil)) .nil));refine zR ?_;by_cases hno:js d l = -1
 ·have hall:=LQ hno;rw[hno];refine xd ?_;refine zV ?_;refine zE ?_;exact zP [.tmp 4] (hq:=by (try simp only[dh,aW]);first | done | (rw[FW hall,bs,List.replicate_zero,append_nil];first | exact⟨rfl,rfl⟩ | exact⟨trivial,rfl⟩ | exact⟨rfl,trivial⟩ | exact⟨trivial,trivial⟩))
 obtain⟨k,x0,hk,hx0,hd0,hbef⟩:=LP hno;rw[hk];have hkl:k<l.length:=bD hx0;refine aC (show decide ((k:Int) = -1)=false by simp only[wp];omega) ?_;refine zN ?_;refine zs ?_;refine ar.r0 (by rfl) (gQ (bA (k:Int) 1 (by omega))) ?_
 have hst:fh d (l.take (k+1))=l.take k:=by
  rw[B7 hx0,ul hd0,append_nil];refine FW λx hx=>?_;obtain⟨i,hi⟩:=List.mem_iff_getElem?.1 hx
  have hik:i<k:=by
   have:=bD hi;rw[a0] at this;omega
  rw[bb,ul hik] at hi;exact hbef i x hik hi
 (repeat refine ar.seq ?_)
 refine ar.block (ar.loop (λm st=>∃(j i:Nat) (q:List bJ),(i<j/\j<=l.length/\q.length=l.length)/\(q.take i=fh d (l.take j)/\q.drop j=l.drop j)/\l.length-j=m/\st=⟨[(0,.buf 0 l.length 14 none),(1,.fn g [] [.ptr 1 0]),(5,cx i),(6,cx j),(1000000,.ptr 0 0),(1000001,.ptr 1 0)],42,[.cells (q.flatMap aF),.cells c2],[]⟩) (l.length-(k+1)) (bL @dr) ⟨k+1,k,l,⟨Nat.lt_succ_self _,hkl,rfl⟩,⟨hst.symm,rfl⟩,rfl,rfl⟩ (by rintro m st ⟨j,i,q,_,_,_,rfl⟩;rfl) ?_);rintro m st ⟨j,i,q,⟨hij,hjl,hql⟩,⟨htk,hdr⟩,rfl,rfl⟩
 have hcl:(q.flatMap aF).length=l.length*14:=by rw[aJ cT,hql]
 refine zV ?_;by_cases hlt:j<l.length;rotate_left
 ·rw[show decide ((j:Int)<(l.length:Int))=false by simp only[wp];omega]
  obtain rfl:j=l.length:=by omega
  rw[List.take_length] at htk;refine dZ ?_
  have hkl2:(fh d l).length=i:=by rw[<-htk,a0];omega
  have hrest:(q.flatMap aF).take (i*14)++((rep bJ.wh (l.length-i)).map SV.a++(q.flatMap aF).drop (i*14+(l.length-i)*14))=(fh d l++aR (l.length-(fh d l).length) bJ.zero).flatMap aF:=by
   rw[hkl2,sJ,hY cT,htk,ap (by rw[hcl];omega),append_nil,a9]
  refine zs ?_;refine ar.r0 (by rfl) (by simp only[bP,bg,ak,aw,aS,Option.map_some,↓reduceIte,Nat.reduceEqDiff,Nat.reduceAdd,Nat.reduceMul,Nat.reduceLeDiff,Nat.reduceLT,ai,an,aU,uX (show i<=l.length by omega),show ¬(l.length-i=0) by omega,show i*14+(l.length-i)*14<=l.length*14 by omega,hcl,show(rep [AV.int IntKind.i64 0,.int .i64 0,.str [],.str [],.str [],.str [],.str [],.str [],.int .i64 0,.int .i64 0,.int .i64 0,.int .i64 0,.int .i64 0,.int .i64 0] (l.length-i))=rep bJ.wh (l.length-i) from rfl,xe,hrest];first | done | rfl) ?_;refine zs ?_;refine ar.r0 (by rfl) (gQ (n2 (Sx (show i<=l.length by omega)) @a7)) ?_;refine zE ?_;exact MV.of (rs:=[.tmp 4]) rfl rfl zl (by (try simp only[dh,aW]);first | done | (rw[hkl2];first | exact⟨rfl,rfl⟩ | exact⟨trivial,rfl⟩ | exact⟨rfl,trivial⟩ | exact⟨trivial,trivial⟩)) zd zg
 rw[show decide ((j:Int)<(l.length:Int))=true by simp only[wr];omega];obtain⟨x,hx⟩:∃x,l[j]?=some x:=⟨l[j],aa hlt⟩
 have hqx:q[j]?=some x:=by
  have:(q.drop j)[0]?=(l.drop j)[0]?:=by rw[hdr]
  rw[a3,a3,Nat.add_zero] at this;rw[this,hx]
 have hdr2:q.drop (j+1)=l.drop (j+1):=by
  have:=congrArg (List.drop 1) hdr;rw[bi,bi] at this;exact this
 have hsn:=B7 (d:=d) hx;have ax:((q.flatMap aF).drop (j*14)).take 14=aF x:=aG (e:=14) (enc:=aF) (λ_=>rfl) hqx;rw[dx] at ax;have hpx:=hp x;rw[dx] at hpx;refine eQ ?_;refine aC (n6 hlt hcl (show j*14+14<=l.length*14 by omega) ax hkc hk2) ?_;refine zC ?_;refine zK hpx ?_ (hwk:=.cons (.ag (bp.refl rfl)) (.cons (.ptr rfl (bp.refl hg) (a5 _)) .nil));cases hd:d x
 ·have hil:i<q.length:=by omega
  have s1:=gB (enc:=aF) cT (l:=q) (i:=i) x hil;rw[dx] at s1;simp only[be,a8] at s1;rw[hd,un (by decide)] at hsn;refine zR ?_;refine zY ?_;refine aC (n4 (show i<l.length by omega) hcl (show i*14+14<=l.length*14 by omega) s1) ?_;refine zs ?_;refine ar.r0 (by rfl) (gQ (bA (i:Int) 1 (by omega))) ?_;refine zs ?_;refine ar.r0 (by rfl) (gQ (bA (j:Int) 1 (by omega))) ?_;refine⟨l.length-(j+1),_,by omega,(bL @dr),j+1,i+1,q.set i x,⟨by omega,by omega,by rw[ac,hql]⟩,⟨?_,?_⟩,rfl,rfl⟩
  ·rw[hsn,<-htk,aj,ul hil,bh,a0,Nat.min_eq_left (by omega),List.take_take,Nat.min_eq_right (by omega),show i+1-i=1 by omega];rfl
  ·rw[List.drop_set,ul (by omega)];exact hdr2
 ·rw[hd,ul rfl,append_nil] at hsn;refine zR ?_;refine zN ?_;refine zs ?_;refine ar.r0 (by rfl) (gQ (bA (j:Int) 1 (by omega))) ?_;exact⟨l.length-(j+1),_,by omega,(bL @dr),j+1,i,q,⟨by omega,by omega,hql⟩,⟨by rw[hsn,htk],hdr2⟩,rfl,rfl⟩
def AE{i j:Nat}(h:i+j<=1000000):mE Tryz.prog 3 209 (.int .i64 ((i:Int)+(j:Int)))=some (.int .u64 ((i+j:Nat):Int)):=by
 unfold mE;rw[show Tryz.prog.underlying 3=some (.int .i64) by kernel_rfl,show Tryz.prog.underlying 209=some (.int .u64) by kernel_rfl]
 have:dO .u64 ((i:Int)+(j:Int))=((i+j:Nat):Int):=by rw[iy];simp[IntKind.wrap,IntKind.bits,IntKind.signed];omega
 simp only[this]
def AF{s:Nat}:cS Tryz.prog .shr 209 (.int .u64 (s:Int)) (.int .u64 1)=some (.int .u64 ((s/2:Nat):Int)):=by
 have:((s:Int)).fdiv 2=((s/2:Nat):Int):=by
  rw[Int.fdiv_eq_ediv_of_nonneg _ (by decide)];omega
 show some (AV.int .u64 (((s:Int)).fdiv 2))=_;rw[this]
def AG{s:Nat}(h:s<=1000000):mE Tryz.prog 209 3 (.int .u64 (s:Int))=some (.int .i64 (s:Int)):=by
 unfold mE;rw[show Tryz.prog.underlying 3=some (.int .i64) by kernel_rfl,show Tryz.prog.underlying 209=some (.int .u64) by kernel_rfl]
 have:dO .i64 (s:Int)=(s:Int):=by rw[iy];simp[IntKind.wrap,IntKind.bits,IntKind.signed];omega
 simp only[this]
def dL(p:aH):ah p=[ae p.name,ae p.kind,ae p.bN,ae p.slot,ab p.made,ab p.since,az p.eI,ak 2 p.props au,ab p.l1,ab p.l2,ab p.l3,ab p.l4,ab p.l5,ab p.l6]:=rfl
def mF(p:bO):au p=[ae p.key,ae p.value]:=rfl
def eX(l:List aH)(k:List Nat)(pos:Nat):Bool:=match l[pos]? with
 | some x=>decide (aH.name x=k)
 | none=>false
structure BB (l:List aH) (k:List Nat) (pos:Nat):Prop where
 le:pos<=l.length
 fE:∀(a:Nat) (x:aH),l[a]?=some x->(gJ (aH.name x) k=true↔a<pos)
set_option maxHeartbeats 1000000 in
def G1(l:List aH)(hlen:l.length<=100000){g:FuncId}{cap:List SV}(hcap:cr cap=true)(k:List Nat)(pos:Nat)(hp:∀x∈l,PC Tryz.prog g ([.ag (ah x),ae k]++cap) (·=ab (rO (aH.name x) k)))(hpart:BB l k pos):
 PC Tryz.prog 127 [ak 14 l ah,ae k,.fn g [] cap] (·=.bE [cx pos,az (eX l k pos)]):=by
 obtain⟨hpos,hpt⟩:=hpart;refine pB 49 Tryz.func127 ?_;refine lC ?_;refine zV ?_
 (repeat refine ar.seq ?_)
 refine ar.block (ar.loop (λm st=>∃i j:Nat,(i<=pos/\pos<=j/\j<=l.length)/\j-i=m/\st=⟨[(0,ak 14 l ah),(1,ae k),(2,.fn g [] cap),(8,cx l.length),(9,cx i),(10,cx j)],49,[],[]⟩) l.length zH ⟨0,l.length,⟨a5 _,hpos,al _⟩,a7 _,rfl⟩ (by rintro m st ⟨i,j,_,_,rfl⟩;rfl) ?_);rintro m st ⟨i,j,⟨hip,hpj,hjl⟩,rfl,rfl⟩;refine zV ?_;by_cases hij:i<j;rotate_left
 ·rw[show decide ((i:Int)<(j:Int))=false by simp only[wp];omega];refine dZ ?_
  obtain rfl:i=pos:=by omega
  by_cases hil:i<l.length
  ·obtain⟨x,hx⟩:∃x,l[i]?=some x:=⟨l[i],aa hil⟩
   have hl:gJ (aH.name x) k=false:=by
    cases h:gJ (aH.name x) k with
    | false=>rfl
    | true=>exact t8 ((hpt i x hx).1 h) (ba _)
   have ax:((l.flatMap ah).drop (i*14)).take 14=ah x:=aG (e:=14) (enc:=ah) (λ_=>rfl) hx;have hpx:=hp x (af hx)
   have hfd:eX l k i=decide (aH.name x=k):=by unfold eX;rw[hx]
   have hc0:decide (rO (aH.name x) k=0)=decide (aH.name x=k):=by
    unfold rO;rw[hl,un (by decide)];by_cases e:aH.name x=k
    ·rw[ul e,wd e];rfl
    ·rw[un e,ut e];rfl
   rw[dL] at ax hpx;refine gG (n3 (show decide ((i:Int)<(l.length:Int))=true by simp only[wr];omega) hil ax) ?_;refine zK hpx ?_ (hwk:=bp.refl (jc rfl hcap));refine cM hc0 ?_;exact iA [.tmp 6,.tmp 7] (hq:=by rw[hfd])
  ·have hfd:eX l k i=false:=by unfold eX;rw[a6 (by omega)]
   refine aC (show decide ((i:Int)<(l.length:Int))=false by simp only[wp];omega) ?_;exact iA [.tmp 6,.tmp 7] (hq:=by rw[hfd])
 rw[show decide ((i:Int)<(j:Int))=true by simp only[wr];omega];obtain⟨h,hh⟩:∃h,h=(i+j)/2:=⟨_,rfl⟩
 have hl2:h<l.length:=by omega
 obtain⟨x,hx⟩:∃x,l[h]?=some x:=⟨l[h],aa hl2⟩;have ax:((l.flatMap ah).drop (h*14)).take 14=ah x:=aG (e:=14) (enc:=ah) (λ_=>rfl) hx;have hpx:=hp x (af hx);have hpth:=hpt h x hx;rw[dL] at ax hpx;refine eQ ?_;refine zs ?_;refine ar.r0 (by rfl) (gQ (n4 (bA (i:Int) (j:Int) (by omega)) (AE (show i+j<=1000000 by omega)) @AF (AG (show(i+j)/2<=1000000 by omega)))) ?_;rw[<-hh];refine gG (n2 hl2 ax) ?_;refine zK hpx ?_ (hwk:=bp.refl (jc rfl hcap))
 have hc:decide (rO (aH.name x) k<0)=gJ (aH.name x) k:=by
  unfold rO;cases h:gJ (aH.name x) k
  ·rw[un (by decide)];split<;>rfl
  ·rw[ul rfl];rfl
 cases hlt:gJ (aH.name x) k
 ·have hge:pos<=h:=by
   rcases bo h pos with hq | hq
   ·have:=hpth.2 hq;rw[hlt] at this;cases this
   ·exact hq
  refine cM (n2 hc hlt) ?_;refine iK ?_;exact⟨h-i,_,by omega,zH,i,h,⟨hip,hge,by omega⟩,rfl,rfl⟩
 ·have hgt:h<pos:=hpth.1 hlt;refine cM (n2 hc hlt) ?_;refine zY ?_;refine zs ?_;refine ar.r0 (by rfl) (gQ (bA (h:Int) 1 (by omega))) ?_;exact⟨j-(h+1),_,by omega,(Fg.less (R7 @dr) (R8 @dr)),h+1,j,⟨by omega,hpj,hjl⟩,rfl,rfl⟩
def fH(l:List bO)(k:List Nat)(pos:Nat):Bool:=match l[pos]? with
 | some x=>decide (bO.key x=k)
 | none=>false
structure BC (l:List bO) (k:List Nat) (pos:Nat):Prop where
 le:pos<=l.length
 fE:∀(a:Nat) (x:bO),l[a]?=some x->(gJ (bO.key x) k=true↔a<pos)
set_option maxHeartbeats 1000000 in
def G2(l:List bO)(hlen:l.length<=100000){g:FuncId}{cap:List SV}(hcap:cr cap=true)(k:List Nat)(pos:Nat)(hp:∀x∈l,PC Tryz.prog g ([.ag (au x),ae k]++cap) (·=ab (rO (bO.key x) k)))(hpart:BC l k pos):
 PC Tryz.prog 135 [ak 2 l au,ae k,.fn g [] cap] (·=.bE [cx pos,az (fH l k pos)]):=by
 obtain⟨hpos,hpt⟩:=hpart;refine pB 49 Tryz.func135 ?_;refine lC ?_;refine zV ?_
 (repeat refine ar.seq ?_)
 refine ar.block (ar.loop (λm st=>∃i j:Nat,(i<=pos/\pos<=j/\j<=l.length)/\j-i=m/\st=⟨[(0,ak 2 l au),(1,ae k),(2,.fn g [] cap),(8,cx l.length),(9,cx i),(10,cx j)],49,[],[]⟩) l.length zH ⟨0,l.length,⟨a5 _,hpos,al _⟩,a7 _,rfl⟩ (by rintro m st ⟨i,j,_,_,rfl⟩;rfl) ?_);rintro m st ⟨i,j,⟨hip,hpj,hjl⟩,rfl,rfl⟩;refine zV ?_;by_cases hij:i<j;rotate_left
 ·rw[show decide ((i:Int)<(j:Int))=false by simp only[wp];omega];refine dZ ?_
  obtain rfl:i=pos:=by omega
  by_cases hil:i<l.length
  ·obtain⟨x,hx⟩:∃x,l[i]?=some x:=⟨l[i],aa hil⟩
   have hl:gJ (bO.key x) k=false:=by
    cases h:gJ (bO.key x) k with
    | false=>rfl
    | true=>exact t8 ((hpt i x hx).1 h) (ba _)
   have ax:((l.flatMap au).drop (i*2)).take 2=au x:=aG (e:=2) (enc:=au) (λ_=>rfl) hx;have hpx:=hp x (af hx)
   have hfd:fH l k i=decide (bO.key x=k):=by unfold fH;rw[hx]
   have hc0:decide (rO (bO.key x) k=0)=decide (bO.key x=k):=by
    unfold rO;rw[hl,un (by decide)];by_cases e:bO.key x=k
    ·rw[ul e,wd e];rfl
    ·rw[un e,ut e];rfl
   rw[mF] at ax hpx;refine gG (n3 (show decide ((i:Int)<(l.length:Int))=true by simp only[wr];omega) hil ax) ?_;refine zK hpx ?_ (hwk:=bp.refl (jc rfl hcap));refine cM hc0 ?_;exact iA [.tmp 6,.tmp 7] (hq:=by rw[hfd])
  ·have hfd:fH l k i=false:=by unfold fH;rw[a6 (by omega)]
   refine aC (show decide ((i:Int)<(l.length:Int))=false by simp only[wp];omega) ?_;exact iA [.tmp 6,.tmp 7] (hq:=by rw[hfd])
 rw[show decide ((i:Int)<(j:Int))=true by simp only[wr];omega];obtain⟨h,hh⟩:∃h,h=(i+j)/2:=⟨_,rfl⟩
 have hl2:h<l.length:=by omega
 obtain⟨x,hx⟩:∃x,l[h]?=some x:=⟨l[h],aa hl2⟩;have ax:((l.flatMap au).drop (h*2)).take 2=au x:=aG (e:=2) (enc:=au) (λ_=>rfl) hx;have hpx:=hp x (af hx);have hpth:=hpt h x hx;rw[mF] at ax hpx;refine eQ ?_;refine zs ?_;refine ar.r0 (by rfl) (gQ (n4 (bA (i:Int) (j:Int) (by omega)) (AE (show i+j<=1000000 by omega)) @AF (AG (show(i+j)/2<=1000000 by omega)))) ?_;rw[<-hh];refine gG (n2 hl2 ax) ?_;refine zK hpx ?_ (hwk:=bp.refl (jc rfl hcap))
 have hc:decide (rO (bO.key x) k<0)=gJ (bO.key x) k:=by
  unfold rO;cases h:gJ (bO.key x) k
  ·rw[un (by decide)];split<;>rfl
  ·rw[ul rfl];rfl
 cases hlt:gJ (bO.key x) k
 ·have hge:pos<=h:=by
   rcases bo h pos with hq | hq
   ·have:=hpth.2 hq;rw[hlt] at this;cases this
   ·exact hq
  refine cM (n2 hc hlt) ?_;refine iK ?_;exact⟨h-i,_,by omega,zH,i,h,⟨hip,hge,by omega⟩,rfl,rfl⟩
 ·have hgt:h<pos:=hpth.1 hlt;refine cM (n2 hc hlt) ?_;refine zY ?_;refine zs ?_;refine ar.r0 (by rfl) (gQ (bA (h:Int) 1 (by omega))) ?_;exact⟨j-(h+1),_,by omega,(bL @dr),h+1,j,⟨by omega,hpj,hjl⟩,rfl,rfl⟩
end Go.Proofs
