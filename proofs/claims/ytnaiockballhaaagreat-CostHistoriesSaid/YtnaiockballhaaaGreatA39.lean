/- A part of the texts of this claim: every theorem says what it proves, with its conditions. -/
import Derived.Test.YtnaiockballhaaaGreatA38
import Derived.Test.YtnaiockballhaaaGreatA27
import Derived.Test.YtnaiockballhaaaGreatA26
import Derived.Test.YtnaiockballhaaaGreatA23
set_option linter.unusedSimpArgs false
set_option linter.unusedVariables false
set_option linter.unusedSectionVars false
open Nat (reduceAdd reduceLT reduceEqDiff reduceLeDiff reduceMul reduceSub mul_one ble)
open Option (bind_some map_some)
open List (length_map replicate all_eq_true length_take nil_append take_length)
namespace Go.Proofs
open Go.Ev
set_option maxRecDepth 100000
def ig(l:List bq):List Int:=l.map λr=>if 1<bp r then -1 else 0
def oO(c:List aU)(l:List bq)(most:Int):Bool×List (List Int):=fk c l most (l.length+1) 0 (ig l) []
theorem Hl(l:List bq):KW (ig l):=by
 intro n hn h0;obtain⟨r,_,rfl⟩:=List.mem_map.1 hn;split
 ·rfl
 ·rename_i h;rw[if_neg h] at h0;omega
theorem yE(c:List aU)(l:List bq):PC Tryz.prog 31 [.ag [an 3 c aq],an 2 l aD] (·=.fn 64 [] [.ip [an 2 l aD],.ip [an 3 c aq]]):=by
 refine pB 6 Tryz.func31 ?_;refine zV ?_;refine ai.fg (Fg.freeze (f':=[(2,.ip [an 3 c aq]),(3,.ptr 1 0)]) 0 rfl (λh=>by cases h) (p6 @an.eq_1)) ?_;refine ai.fg (Fg.freeze (f':=[(2,.ip [an 3 c aq]),(3,.ip [an 2 l aD])]) 1 rfl (λh=>by cases h) (p6 @an.eq_1)) ?_
 (try change ai _ _ _ _ _)
 refine zV ?_;refine zE ?_;exact zO [.tmp 4]
theorem HM(n:Nat)(h:n<=1000000):eS Tryz.prog 40 (.int .i64 (n:Int)) (.int .i64 (n:Int))=some (n,1,n,rep [.int .i64 0] n):=by
 have q1:(Tryz.prog.info? 3).map (λi=>(i.size,ble i.bytes 10000))=some (1,true):=by kernel_rfl
 obtain⟨i,hi,e⟩:=Option.map_eq_some_iff.1 q1;have e1:i.size=1:=congrArg Prod.fst e;have e2:ble i.bytes 10000=true:=congrArg Prod.snd e;unfold eS;rw[show Tryz.prog.underlying 40=some (.slice 3) by kernel_rfl];simp only;rw[show c9 (.int .i64 (n:Int))=some n from rfl,bind_some,bind_some,hi,bind_some,show dm Tryz.prog 3=some (.int .i64 0) by simp only[aw],bind_some,e1,e2,ek (Nat.le_refl n),ek h];rfl
theorem vb:∀n,(rep [AV.int .i64 0] n).map SV.a=(replicate n (0:Int)).flatMap (az aa)
 | 0=>rfl
 | n+1=>by rw[rep,List.map_append,vb n,List.replicate_succ,List.flatMap_cons];rfl
def q6(l:List bq)(k:Nat):List Int:=(ig l).take k++replicate (l.length-k) 0
theorem Iv(l:List bq)(k:Nat)(h:k<=l.length):(q6 l k).length=l.length:=by
 unfold q6 ig;rw[List.length_append,length_take,length_map,List.length_replicate];omega
theorem Nv{l:List bq}{k:Nat}{v:Int}(h:(ig l)[k]?=some v):(q6 l k).set k v=q6 l (k+1):=by
 have hk:k<(ig l).length:=bl h;have hsl:(ig l).length=l.length:=length_map _;unfold q6;rw[bo h,List.set_append_right _ _ (by rw[length_take];omega),length_take,Nat.min_eq_left (by omega),Nat.sub_self,show l.length-k=(l.length-(k+1))+1 by omega,List.replicate_succ,List.set_cons_zero,List.append_assoc]
 try rfl
theorem Lo{l:List bq}{k:Nat}(h:(ig l)[k]?=some 0):q6 l (k+1)=q6 l k:=by
 have hk:k<(ig l).length:=bl h;have hsl:(ig l).length=l.length:=length_map _;unfold q6;rw[bo h,show l.length-k=(l.length-(k+1))+1 by omega,List.replicate_succ,List.append_assoc]
 try rfl
set_option maxHeartbeats 4000000 in
theorem HC(c:List aU)(l:List bq)(lc:fP)(most:Int)(hcd:rJ lc)(hln:lc.n=39)(hlp:lc.ps=#[26])(hc:jJ c)(hl:∀r∈l,ea r)(hlen:l.length<20)(hl0:l≠[])(hm:most<=4096)(hm0:0<most):
 SC Tryz.prog 64 [.a (.fn (.yield lc.id) [] []),.ip [an 2 l aD],.ip [an 3 c aq]] [cB lc most true,.cells [cC],.gone] [2] (λr S'=>r=.bI []/\S'=[cB lc most (oO c l most).1,.cells [bm 2 1 (oO c l most).2.length],qJ (oO c l most).2]):=by
 refine QE 28 Tryz.func64 ?_;have hsl:(ig l).length=l.length:=length_map _;have hfr:=yz c l lc most hcd hln hlp hc hl hlen hl0 hm (l.length+1) 0 (ig l) [] (Nat.zero_le _) (by omega) hsl (Hl l) hm0;unfold Pa at hfr;rw[show fk c l most (l.length+1) 0 (ig l) []=oO c l most from rfl,hsl,List.length_nil,dy,Cb,show((0:Nat):Int)=0 from rfl] at hfr;generalize oO c l most=q at hfr ⊢;have hk3:=λok=>lT 3 lc most ok (by decide);have hk4:=λok=>lT 4 lc most ok (by decide);have hk5:=λok=>lT 5 lc most ok (by decide);have hkc:=λ(o:Nat) (q:List Int)=>aW (enc:=az aa) (λ_=>rfl) o q;have hrc:∀(r:Nat->Nat) (x:List Int),jM r (x.flatMap (az aa))=x.flatMap (az aa):=λr x=>aZ (aB (λ_=>rfl) _);have hbc:∀(B:Nat) (x:List Int),fc B (x.flatMap (az aa))=true:=λB x=>bu (aB (λ_=>rfl) _);have hrl:∀(B:Nat) (ok:Bool),nO (jg [0,1,2,5,4] B) (cB lc most ok)=cB lc most ok:=λB ok=>yb _ lc most ok rfl;refine zs ?_;refine ai.r0 (by rfl) (by simp only[bx,aX,an,aw,bind_some,map_some,↓reduceIte,reduceEqDiff,reduceAdd,reduceMul,reduceLeDiff,reduceLT,ah,ao,aP,↓hk3];first | done | rfl) ?_;refine ai.fg (Fg.freeze (f':=[(0,.a (.fn (.yield lc.id) [] [])),(1,.ip [an 2 l aD]),(2,.ip [an 3 c aq]),(3,.ip [.a (.fn (.yield lc.id) [] [])]),(1000000,.ptr 0 0),(1000001,.ptr 1 0),(1000002,.ptr 2 0)]) 3 rfl (λh=>by cases h) (p6 @an.eq_1)) ?_
 (try change ai _ _ _ _ _)
 refine zs ?_;refine ai.r0 (by rfl) (by simp only[bx,aX,an,aw,bind_some,map_some,↓reduceIte,reduceEqDiff,reduceAdd,reduceMul,reduceLeDiff,reduceLT,ah,ao,aP,↓hk4,↓hk5,HM l.length (by omega),vb,hkc];first | done | rfl) ?_;refine ai.fg (st':=⟨[(0,.a (.fn (.yield lc.id) [] [])),(1,.ip [an 2 l aD]),(2,.ip [an 3 c aq]),(3,.ip [.a (.fn (.yield lc.id) [] [])]),(4,.ptr 3 0),(1000000,.ptr 0 0),(1000001,.ptr 1 0),(1000002,.ptr 2 0)],28,[cB lc most true,.cells [cC],.gone,.cells [.buf 4 l.length 1 (some l.length)],.cells ((replicate l.length (0:Int)).flatMap (az aa))],[]⟩) (Fg.rn [0,1,2,5,4] (by decide) rfl (by (simp only[si,ec,aX,an,↓hrl,hrc])<;>(repeat' apply And.intro)<;>first | trivial | exact .inl rfl | exact .inr rfl | exact .inr trivial | exact .inl trivial) (by (simp only[bx,ec,aX,an,↓hrl,hrc])<;>(repeat' apply And.intro)<;>first | rfl | trivial)) ?_;rw[show replicate l.length (0:Int)=q6 l 0 by unfold q6;rw[List.take_zero,nil_append,Nat.sub_zero]];refine zV ?_
 have hlen6:l.length<=1000000:=by omega
 refine zs ?_;refine zL l (λk=>True) (λk=>[(0,.a (.fn (.yield lc.id) [] [])),(1,.ip [an 2 l aD]),(2,.ip [an 3 c aq]),(3,.ip [.a (.fn (.yield lc.id) [] [])]),(4,.ptr 3 0),(11,an 2 l aD),(12,aa l.length),(13,aa k),(1000000,.ptr 0 0),(1000001,.ptr 1 0),(1000002,.ptr 2 0)]) (λk=>[cB lc most true,.cells [cC],.gone,.cells [.buf 4 l.length 1 (some l.length)],.cells ((q6 l k).flatMap (az aa))]) zH zp ?_;intro k hk hall;refine zV ?_;by_cases hlt:k<l.length;rotate_left;obtain rfl:k=l.length:=(by omega);rw[zf];rotate_left;rw[zt hlt];obtain⟨r,hx⟩:=zx hlt;rotate_left
 ·refine zN ?_;refine ai.exit ?_
  (try change ai _ _ _ _ _)
  rw[show q6 l l.length=ig l by unfold q6;rw[<-hsl,take_length,hsl,Nat.sub_self];simp];refine zs ?_;refine ai.r0 (by rfl) (by simp only[bx,aX,an,aw,bind_some,map_some,↓reduceIte,reduceEqDiff,reduceAdd,reduceMul,reduceLeDiff,reduceLT,ah,ao,aP,↓hk5,hkc];first | done | rfl) ?_;refine zV ?_;have hrl6:∀(B:Nat) (ok:Bool),nO (jg [0,1,2,3,4,5] B) (cB lc most ok)=cB lc most ok:=λB ok=>yb _ lc most ok rfl;have hbl:∀ok:Bool,kD 6 (cB lc most ok)=true:=λok=>tM 6 lc most ok (by decide);have hrn:∀(B n:Nat),fv (jg [0,1,2,3,4,5] B) (bm 2 1 n)=bm 2 1 n:=λB n=>dS _ 2 1 n
  have hbn:∀n:Nat,dx 6 (bm 2 1 n)=true:=λn=>by
   unfold bm;split
   ·exact fe rfl
   ·rfl
  refine ai.post ?_;refine zC ?_;refine aM.sk [0,1,2,3,4,5] (by rfl) rfl rfl (by rfl) rfl (Gh @aT.eq_1) (hfr) (by simp only[ec,aX,an,↓reduceIte,reduceEqDiff,reduceAdd,reduceSub,reduceMul,reduceLeDiff,reduceLT,hrc,hbc,↓iS,↓fC,aT,↓hrl6,↓hbl,↓hrn,↓hbn];first | done | rfl) rfl (by decide) (by simp only[rb,ec,aX,an,hrc,hbc,↓iS,↓fC,aT,↓hrl6,↓hbl,↓hrn,↓hbn]<;>(repeat' apply And.intro)<;>first | trivial | rfl | (intro hh;cases hh)) (by simp only[vN,ec,aX,an,reduceAdd,reduceLT,decide_true,hrc,hbc,↓iS,↓fC,aT,↓hrl6,↓hbl,↓hrn,↓hbn];first | done | rfl) (by simp only[vN,ec,aX,an,reduceAdd,reduceLT,decide_true,hrc,hbc,↓iS,↓fC,aT,↓hrl6,↓hbl,↓hrn,↓hbn];first | done | rfl) (by simp only[ec,aX,an,↓reduceIte,reduceEqDiff,reduceAdd,reduceSub,reduceMul,reduceLeDiff,reduceLT,hrc,hbc,↓iS,↓fC,aT,↓hrl6,↓hbl,↓hrn,↓hbn];first | done | rfl) (by simp only[ec,aX,an,↓reduceIte,reduceEqDiff,reduceAdd,reduceSub,reduceMul,reduceLeDiff,reduceLT,hrc,hbc,↓iS,↓fC,aT,↓hrl6,↓hbl,↓hrn,↓hbn,dz,dq,bP,bf,bx];first | done | rfl) (by simp only[ec,aX,an,↓reduceIte,reduceEqDiff,reduceAdd,reduceSub,reduceMul,reduceLeDiff,reduceLT,hrc,hbc,↓iS,↓fC,aT,↓hrl6,↓hbl,↓hrn,↓hbn,dz,dq,bP,bf,bx];first | done | rfl) ?_;refine zR ?_;refine⟨⟨[(1000000,.ptr 0 0),(1000001,.ptr 1 0)],28,[cB lc most q.1,.cells [bm 2 1 q.2.length],qJ q.2],[]⟩,zH,?_⟩;exact zP []
 have hrk:ea r:=hl r (List.mem_of_getElem? hx);have hr1:=hrk.len
 have hv:(ig l)[k]?=some (if 1<bp r then -1 else 0):=by unfold ig;rw[List.getElem?_map,hx];rfl
 have hcl:((q6 l k).flatMap (az aa)).length=l.length:=by rw[aJ (enc:=az aa) (e:=1) (λ_=>rfl),Iv l k hk,mul_one]
 refine zY ?_
 (repeat refine ai.seq ?_)
 refine ai.block ?_;refine zs ?_;refine ai.r0 (by rfl) (by simp only[bx,aX,an,aw,bind_some,map_some,↓reduceIte,reduceEqDiff,reduceAdd,reduceMul,reduceLeDiff,reduceLT,ah,ao,aP,hlt,aH (e:=2) (enc:=aD) (λ_=>rfl) hx,aD,↓hk5,hkc];first | done | rfl) ?_;refine zC ?_;refine zK (gS r hrk) ?_;cases g:decide (1<bp r)
 ·rw[if_neg (of_decide_eq_false g)] at hv;refine cS g ?_;refine zN ?_;refine aE (zi hlt hlen6) ?_;refine zX hlt (cI (Lo hv)) trivial
 ·rw[if_pos (of_decide_eq_true g)] at hv;have hset:=gN (enc:=az aa) (e:=1) (λ_=>rfl) (l:=q6 l k) (i:=k) (-1:Int) (by rw[Iv l k hk];exact hlt);rw[show az aa (-1)=[aa (-1)] from rfl,List.cons_append,nil_append,mul_one,Nv hv] at hset;refine cS g ?_;refine zY ?_;refine aE (n5 hlt hcl @mul_one (show k+1<=l.length by omega) hset) ?_;refine aE (zi hlt hlen6) ?_;refine zX hlt zH trivial
theorem Jz.QM{P:Program}{fn:Func}{Q:SV->Prop}{e:Ex}{st:en}(h:tH P fn Q e st):Jz P fn Q e st:=by
 obtain⟨he,hd,h⟩:=h;refine⟨he,?_⟩;rw[hd];exact h
def iN(c:List aU)(l:List bq)(most:Int):List (List Int)×Int:=if most<1 then ([],1) else if 4096<most then ([],1) else if fh c l=0 then (if (oO c l most).2=[] then ([],21) else ((oO c l most).2,0)) else ([],fh c l)
set_option maxHeartbeats 4000000 in
theorem yp(c:List aU)(l:List bq)(most:Int)(hc:jJ c)(hl:∀r∈l,ea r)(hlen:l.length<20)(hl0:l≠[]):PC Tryz.prog 8 [.ag [an 3 c aq],an 2 l aD,aa most] (·=.bI [an 1 (iN c l most).1 dD,aa (iN c l most).2]):=by
 refine PC.qM (n:=39) dP Tryz.func8 rfl rfl (by decide) ?_;refine zV ?_;refine ai.fg (Fg.freeze (f':=[(1,an 2 l aD),(3,.ip [an 3 c aq]),(5,.ptr 1 0),(6,cC),(7,aa 0)]) 0 rfl (λh=>by cases h) (p6 @an.eq_1)) ?_;refine ai.fg (Fg.freeze (f':=[(1,an 2 l aD),(3,.ip [an 3 c aq]),(5,.ip [aa most])]) 1 rfl (λh=>by cases h) (p6 @an.eq_1)) ?_;refine ai.fg (st':=⟨[(1,an 2 l aD),(3,.ip [an 3 c aq]),(5,.ip [aa most])],39,[],[]⟩) zH ?_
 (try change ai _ _ _ _ _)
 cases h1:decide (most<1);rotate_left
 ·refine aE h1 ?_;refine cE ?_;refine ai.ret ?_
  (try simp only[iq,eB,df,cL])
  refine Jz.QM ?_;exact tH.of (rs:=[.tmp 6,.tmp 7]) (r:=.bI [.sl 0 1 [],aa 1]) rfl rfl zl zv (by (try simp only[aC,ab]);first | done | (rw[show iN c l most=([],1) by rw[iN,if_pos (of_decide_eq_true h1)]];rfl))
 cases h2:decide (4096<most);rotate_left
 ·refine aE (n2 h1 h2) ?_;refine cE ?_;refine ai.ret ?_
  (try simp only[iq,eB,df,cL])
  refine Jz.QM ?_;exact tH.of (rs:=[.tmp 6,.tmp 7]) (r:=.bI [.sl 0 1 [],aa 1]) rfl rfl zl zv (by (try simp only[aC,ab]);first | done | (rw[show iN c l most=([],1) by rw[iN,if_neg (of_decide_eq_false h1),if_pos (of_decide_eq_true h2)]];rfl))
 refine aE (n2 h1 h2) ?_;refine zN ?_
 have hN:=show iN c l most=if fh c l=0 then (if (oO c l most).2=[] then ([],21) else ((oO c l most).2,0)) else ([],fh c l) by rw[iN,if_neg (of_decide_eq_false h1),if_neg (of_decide_eq_false h2)]
 have h1':=of_decide_eq_false h1;have h2':=of_decide_eq_false h2;refine zC ?_;refine zK (zn c l hc hl (by omega)) ?_;refine zR ?_;cases h3:decide (fh c l=0)
 ·refine aE h3 ?_;refine cE ?_;refine ai.ret ?_
  (try simp only[iq,eB,df,cL])
  refine Jz.QM ?_;exact tH.of (rs:=[.tmp 6,.tmp 7]) (r:=.bI [.sl 0 1 [],aa (fh c l)]) rfl rfl zl zv (by (try simp only[aC,ab]);first | done | (rw[hN,if_neg (of_decide_eq_false h3)];rfl))
 refine aE h3 ?_;refine zN ?_;rw[if_pos (of_decide_eq_true h3)] at hN;refine ki ?_;refine zK (yE c l) ?_ (hfl:=.inr (bn.refl rfl));refine zR ?_;refine ai.fg (st':=⟨[(5,.ip [aa most]),(9,.ptr 0 0),(25,.fn 64 [] [.ip [an 2 l aD],.ip [an 3 c aq]])],39,[.cells [cC],.gone],[]⟩) zH ?_
 (repeat refine ai.seq ?_)
 refine ai.block ?_;refine ai.sO (f1:=[(5,.ip [aa most]),(9,.ptr 0 0)]) dP (by rfl) Tryz.func64 (by rfl) uR ?_;rintro N lc hid hn hps ha hb
 have hcd:rJ lc:=by
  unfold rJ;rw[Tryz.func8,ha,hb];rfl
 have hsc:=HC c l lc most hcd hn hps hc hl hlen hl0 (by omega) (by omega);generalize oO c l most=q at hN hsc;refine⟨[3,0,1],_,_,_,_,hsc,?_,rfl,by decide,?_,?_⟩
 ·simp only[ec,aX,bx,an,dz,bf,↓reduceIte,reduceEqDiff,reduceAdd,reduceSub,hid,List.map,List.append,List.cons_append,nil_append]
 ·rintro(_ | _ | _ | i) so h
  ·cases h;exact⟨3,rfl,by rfl⟩
  ·cases h;exact⟨0,rfl,by rfl⟩
  ·cases h;exact⟨1,rfl,by rfl⟩
  ·cases h
 rintro r S' ⟨rfl,rfl⟩
 have hbn:∀n:Nat,dx 3 (bm 2 1 n)=true:=λn=>by
  unfold bm;split
  ·exact fe rfl
  ·rfl
 refine⟨by simp only[vN,ec,aX,an,reduceAdd,reduceLT,decide_true,↓fC,↓hbn,↓tM 3 lc most q.1 (by decide)];first | done | rfl,3,cond q.1 .ready .done,cond q.1 none (some (.exit 0)),[(5,.ip [aa most]),(9,.ptr 0 0)],by rfl,by cases q.1<;>decide,by rfl,?_⟩;have hrl3:∀(B:Nat) (ok:Bool),nO (jg [3,0,1] B) (cB lc most ok)=.loop lc (cond ok .ready .done) (cond ok none (some (.exit 0))) [(5,.ip [aa most]),(9,.ptr 0 0)]:=λB ok=>rfl
 have hrn3:∀(B n:Nat),nO (jg [3,0,1] B) (.cells [bm 2 1 n])=.cells [bm 1 1 n]:=λB n=>by
  show SO.cells [fv _ _]=_;rw[dS];rfl
 have hS2:(fb (gi (gi [SO.cells [cC],SO.gone] (SO.ni N)) (SO.loop lc .ready none [(5,.ip [aa most]),(9,.ptr 0 0)])) [3,0,1] [2] [cB lc most q.1,.cells [bm 2 1 q.2.length],qJ q.2]).set 3 .gone=[.cells [bm 1 1 q.2.length],qJ q.2,.ni N,.gone]:=by
  simp only[fb,gi,dq,dK,iQ,jc,List.length_cons,List.length_nil,List.map,length_map,List.length_append,↓hrl3,↓hrn3,↓iS];rfl
 rw[hS2];cases hq1:q.1
 all_goals
  (first | refine ai.exit ?_ | skip)
  change ai _ _ _ ⟨[(5,.ip [aa most]),(9,.ptr 0 0)],39,[.cells [bm 1 1 q.2.length],qJ q.2,.ni N,.gone],[{ fn:=none,Db:=N,args:=[],cap:=[] }]⟩ _;by_cases ho:q.2=[]
  ·rw[if_pos ho] at hN;rw[ho,Cb,show bm 1 1 ([]:List (List Int)).length=cC from rfl];refine wy ?_;refine zV ?_;refine ai.ret ?_
   (try simp only[iq,eB,df,cL])
   exact⟨rfl,[(6,cC),(7,aa 21)],⟨rfl,rfl,trivial⟩,rfl,.inl ⟨rfl,2,rfl,[cC,aa 21],.bI [.sl 0 1 [],aa 21],by rfl,.bI (.cons (.nil _) (.cons (.a _) .nil)),by rw[hN];rfl⟩⟩
  ·rw[if_neg ho] at hN;have hk1:¬q.2.length=0:=λh=>ho (List.length_eq_zero_iff.1 h);rw[Ma ho,bV hk1];refine aE (show decide ((q.2.length:Int)=0)=false by simp only[decide_eq_false_iff_not];omega) ?_;refine gX ?_;refine ai.ret ?_
   (try simp only[iq,eB,df,cL])
   exact⟨rfl,[(6,.buf 1 q.2.length 1 none),(7,aa 0)],⟨rfl,rfl,trivial⟩,rfl,.inl ⟨rfl,2,rfl,[.buf 1 q.2.length 1 none,aa 0],.bI [an 1 q.2 dD,aa 0],by rfl,.bI (.cons (.buf rfl (by rw[cu qa];exact bn.refl (aB lE _)) (by rw[aJ qa];exact Nat.le_refl _)) (.cons (.a _) .nil)),by rw[hN]⟩⟩
theorem FB{l:List (bq)}(p:bq->Bool){fid:FuncId}{first cap:List SV}(hlen:l.length<=1000000)(hp:∀x∈l,PC Tryz.prog fid ((first++[.ag (aD x)])++cap) (·=aA (p x)))(hg:cr first=true/\cr cap=true):PC Tryz.prog 52 [an 2 l aD,.fn fid first cap] (·=aa (jf p l)):=by
 refine pB 19 Tryz.func52 ?_;refine aE @an.eq_1 ?_;refine zV ?_;refine zs ?_;refine zL l (λk=>∀(i:Nat) y,i<k->l[i]?=some y->p y=false) (λk=>[(0,.sl l.length 2 (l.flatMap aD)),(1,.fn fid first cap),(7,aa l.length),(8,aa k)]) (λk=>[]) zH zp ?_;intro k hk hall;refine zV ?_;by_cases hlt:k<l.length;rotate_left;obtain rfl:k=l.length:=(by omega);rw[zf];rotate_left;rw[zt hlt];obtain⟨x,hx⟩:=zx hlt;rotate_left
 ·refine zN ?_;refine ai.exit ?_;refine zV ?_;refine zE ?_;exact zO [.tmp 4] (hq:=by (try simp only[aC,ab]);first | done | (rw[iW hall]))
 ·refine zY ?_
  (repeat refine ai.seq ?_)
  refine ai.block ?_;refine zV ?_;refine gl (n3 hlt (aH (e:=2) (enc:=aD) (λ_=>rfl) hx) @aD.eq_1) ?_;refine zK (hp x (List.mem_iff_getElem?.2 ⟨k,hx⟩)) ?_ (hwk:=((bn.refl hg.1).app (bn.refl rfl)).app (bn.refl hg.2));refine aM.nil ?_;change ai _ _ _ _ _;cases hpx:p x
  ·refine zN ?_;refine aE (zi hlt hlen) ?_;refine zX hlt zH ?_;intro i y hi hy;by_cases hik:i=k
   ·subst hik;rw[hx] at hy;cases hy;exact hpx
   ·exact hall i y (by omega) hy
  ·refine cE ?_;refine zE ?_;exact zO [.tmp 4] (hq:=by (try simp only[aC,ab]);first | done | (rw[mG hx hpx hall]))
theorem Fl{l:List (bq)}(p:bq->Bool){fid:FuncId}{first cap:List SV}(hlen:l.length<=1000000)(hp:∀x∈l,PC Tryz.prog fid ((first++[.ag (aD x)])++cap) (·=aA (p x)))(hg:cr first=true/\cr cap=true):PC Tryz.prog 22 [an 2 l aD,.fn fid first cap] (·=aA (l.any p)):=by
 refine pB 9 Tryz.func22 ?_;refine ki ?_;refine zK (FB p hlen hp hg) ?_ (hwk:=.cons (Wk.sl _ _ _) (.cons (.fn (bn.refl hg.1) (bn.refl hg.2)) .nil));refine zR ?_;refine zE ?_;exact zO [.tmp 4] (hq:=by (try simp only[aC,ab]);first | done | (rw[BX]))
theorem H2(r:bq)(hr:ea r):PC Tryz.prog 23 [.ag (aD r)] (·=aA (!(Proofs.iT r))):=by
 refine pB 6 Tryz.func23 ?_;refine aE @aD.eq_1 ?_;refine zC ?_;refine zK (pX r hr) ?_;refine zR ?_;refine zE ?_;exact zO [.tmp 2]
def QI(c:List aU)(l:List bq):List Int×Int:=if (iN c l 1).2=0 then ((iN c l 1).1.headD [],0) else ([],(iN c l 1).2)
theorem Gr{c:List aU}{l:List bq}{most:Int}(h:(iN c l most).2=0):(iN c l most).1≠[]:=by
 unfold iN at h ⊢;split at h
 ·cases h
 split at h
 ·cases h
 rename_i h1 h2;rw[if_neg h1,if_neg h2];split at h
 ·rename_i h3;rw[if_pos h3];split at h
  ·cases h
  ·rename_i h4;rw[if_neg h4];exact h4
 ·rename_i h3;exact absurd h h3
def bN(w:Wy):List SV:=[ak w.kind,ak w.cK,aa w.days,aa w.km,aa w.uz]
def gU(c:Co):List SV:=[ak c.part,ak c.owner,aa c.day,aa c.am]
theorem iA(w:Wy):bN w=[ak w.kind,ak w.cK,aa w.days,aa w.km,aa w.uz]:=rfl
theorem bF(c:Co):gU c=[ak c.part,ak c.owner,aa c.day,aa c.am]:=rfl
theorem Bi(n:Int):PC Tryz.prog 49 [aa n] (·=aA (GQ n)):=by
 refine pB 9 Tryz.func49 ?_;unfold GQ;refine zV ?_;cases g:decide (0<=n)
 ·refine aE g ?_;refine zE ?_;exact zO [.tmp 2]
 ·refine aE g ?_;refine zE ?_;exact zO [.tmp 2]
theorem Ff(n:Int):PC Tryz.prog 50 [aa n] (·=aA (B0 n)):=by
 refine pB 9 Tryz.func50 ?_;unfold B0;refine zV ?_;cases g:decide (0<=n)
 ·refine aE g ?_;refine zE ?_;exact zO [.tmp 2]
 ·refine aE g ?_;refine zE ?_;exact zO [.tmp 2]
set_option maxHeartbeats 4000000 in
theorem vy(ws:List Wy)(c:Co)(hw:∀w∈ws,w.fits)(hc:c.fits)(hlen:ws.length<=1000):PC Tryz.prog 21 [an 5 ws bN,.ag (gU c)] (·=aA (ej ws c)):=by
 refine pB 70 Tryz.func21 ?_;rw[bF];refine zV ?_;refine ai.fg (Fg.freeze (f':=[(0,an 5 ws bN),(3,.ip [ak c.part,ak c.owner,aa c.day,aa c.am])]) 0 rfl (λh=>by cases h) (p6 @an.eq_1)) ?_;refine ai.fg (st':=⟨[(0,an 5 ws bN),(3,.ip [ak c.part,ak c.owner,aa c.day,aa c.am])],70,[],[]⟩) zH ?_
 (try change ai _ _ _ _ _)
 refine kQ ?_;refine zV ?_
 have hlen6:ws.length<=1000000:=by omega
 refine zs ?_;refine zL ws (λk=>(ws.take k).all Wy.ok=true) (λk=>[(3,.ip [ak c.part,ak c.owner,aa c.day,aa c.am]),(5,.fn 49 [] []),(6,.fn 50 [] []),(9,an 5 ws bN),(10,aa ws.length),(11,aa k)]) (λk=>[]) zH zp ?_;intro k hk hall;refine zV ?_;by_cases hlt:k<ws.length;rotate_left;obtain rfl:k=ws.length:=(by omega);rw[zf];rotate_left;rw[zt hlt];obtain⟨w,hx⟩:=zx hlt;rotate_left
 ·refine zN ?_;refine ai.exit ?_;rw[take_length] at hall
  have hN:ej ws c=c.ok:=by rw[ej,hall];rfl
  rw[hN];unfold Co.ok;refine zC ?_;refine zK (eV c.part ⟨hc.p,hc.pb⟩) ?_;cases h1:cO c.part
  ·refine zR ?_;refine zE ?_;exact zO [.tmp 4]
  refine zQ ?_;refine zK (eV c.owner ⟨hc.o,hc.ob⟩) ?_;cases h2:cO c.owner
  ·refine zR ?_;refine zE ?_;exact zO [.tmp 4]
  refine zQ ?_;refine zK (Bi c.day) ?_;cases h3:GQ c.day
  ·refine zR ?_;refine zE ?_;exact zO [.tmp 4]
  refine zQ ?_;refine zK (Ff c.am) ?_;refine zR ?_;refine zE ?_;exact zO [.tmp 4]
 have hwm:=List.mem_of_getElem? hx;have hwf:=hw w hwm
 have hbad:w.ok=false->ej ws c=false:=λh=>by
  have:ws.all Wy.ok=false:=Bool.eq_false_iff.2 λh2=>by
   have:=all_eq_true.1 h2 w hwm;rw[h] at this;cases this
  rw[ej,this];rfl
 have hgood:w.ok=true->(ws.take (k+1)).all Wy.ok=true:=λh=>by
  rw[bo hx,List.all_append,hall];show(true&&(w.ok&&true))=true;rw[h];rfl
 refine zY ?_
 (repeat refine ai.seq ?_)
 refine ai.block ?_;refine aE (n3 hlt (aH (e:=5) (enc:=bN) (λ_=>rfl) hx) @iA) ?_;refine zC ?_;refine zK (eV w.kind ⟨hwf.k,hwf.kb⟩) ?_;cases h1:cO w.kind
 ·refine zR ?_;refine cE ?_;refine zE ?_;exact zO [.tmp 4] (hq:=by (try simp only[aC,ab]);first | done | (rw[hbad (by rw[Wy.ok,h1];rfl)]))
 refine zQ ?_;refine zK (eV w.cK ⟨hwf.m,hwf.mb⟩) ?_;cases h2:cO w.cK
 ·refine zR ?_;refine cE ?_;refine zE ?_;exact zO [.tmp 4] (hq:=by (try simp only[aC,ab]);first | done | (rw[hbad (by rw[Wy.ok,h1,h2];rfl)]))
 refine zQ ?_;refine zK (Bi w.days) ?_;cases h3:GQ w.days
 ·refine zR ?_;refine cE ?_;refine zE ?_;exact zO [.tmp 4] (hq:=by (try simp only[aC,ab]);first | done | (rw[hbad (by rw[Wy.ok,h1,h2,h3];rfl)]))
 refine zQ ?_;refine zK (Ff w.km) ?_;cases h4:B0 w.km
 ·refine zR ?_;refine cE ?_;refine zE ?_;exact zO [.tmp 4] (hq:=by (try simp only[aC,ab]);first | done | (rw[hbad (by rw[Wy.ok,h1,h2,h3,h4];rfl)]))
 cases h5:decide (w.uz<0);rotate_left
 ·refine cS h5 ?_;refine cE ?_;refine zE ?_;exact zO [.tmp 4] (hq:=by (try simp only[aC,ab]);first | done | (rw[hbad (by rw[Wy.ok,show decide (0<=w.uz)=false by have:=of_decide_eq_true h5;simp;omega];simp)]))
 cases h6:decide (100<w.uz);rotate_left
 ·refine cS (n2 h5 h6) ?_;refine cE ?_;refine zE ?_;exact zO [.tmp 4] (hq:=by (try simp only[aC,ab]);first | done | (rw[hbad (by rw[Wy.ok,show decide (w.uz<=100)=false by have:=of_decide_eq_true h6;simp;omega];simp)]))
 refine cS (n2 h5 h6) ?_;refine zN ?_
 have hok:w.ok=true:=by
  have:=of_decide_eq_false h5;have:=of_decide_eq_false h6;rw[Wy.ok,h1,h2,h3,h4,show decide (0<=w.uz)=true by simp;omega,show decide (w.uz<=100)=true by simp;omega];rfl
 refine aE (zi hlt hlen6) ?_;refine zX hlt zH (hgood hok)
theorem qT(x lo hi:Int):PC Tryz.prog 104 [aa x,aa lo,aa hi] (·=aA (decide (lo<=x)&&decide (x<=hi))):=by
 refine pB 15 Tryz.func104 ?_;refine zV ?_;cases g:decide (lo<=x)
 ·refine aE g ?_;refine zE ?_;exact zO [.tmp 6]
 ·refine aE g ?_;refine zE ?_;exact zO [.tmp 6]
theorem Aa(a p:Int)(ha:0<=a/\a<=1000000000000)(hp:0<=p/\p<=100):PC Tryz.prog 58 [aa a,aa p] (·=.bI [aa (oT a p),aa 0]):=by
 refine pB 40 Tryz.func58 ?_;obtain⟨m1,m2⟩:=IL ha hp;have hm:=wc (P:=Tryz.prog) (t:=3) (a:=a) (b:=p) ⟨by omega,by omega⟩
 have hpn:oT a p=if 100<2*(a*p%100)\/(2*(a*p%100)=100/\a*p/100%2≠0) then a*p/100+1 else a*p/100:=rfl
 rw[hpn];clear hpn;generalize a*p=m at *;have t1:m.tdiv 100=m/100:=Int.tdiv_eq_ediv_of_nonneg m1;have t2:m.tmod 100=m%100:=Int.tmod_eq_emod_of_nonneg m1;have hq:=No (P:=Tryz.prog) (t:=3) (a:=m) (b:=100) (by decide) (by rw[t1];omega);have hr:=Ik (P:=Tryz.prog) (t:=3) (a:=m) (b:=100) (by decide);rw[t1] at hq;rw[t2] at hr;have h2:=wc (P:=Tryz.prog) (t:=3) (a:=2) (b:=m%100) ⟨by omega,by omega⟩;have t3:(m/100).tmod 2=m/100%2:=Int.tmod_eq_emod_of_nonneg (by omega);have hr2:=Ik (P:=Tryz.prog) (t:=3) (a:=m/100) (b:=2) (by decide);rw[t3] at hr2;refine ki ?_;refine zK (qT a 0 1000000000000) ?_;rw[show(decide (0<=a)&&decide (a<=1000000000000))=true by simp;omega];refine zQ ?_;refine zK (qT p 0 100) ?_;rw[show(decide (0<=p)&&decide (p<=100))=true by simp;omega];refine zR ?_;refine zN ?_;refine aE (n3 hm hq hr) ?_;cases c1:decide (100<2*(m%100))
 ·have c1':=of_decide_eq_false c1;cases c2:decide (2*(m%100)=100)
  ·have c2':=of_decide_eq_false c2;refine aE (n3 h2 c1 c2) ?_;refine gX ?_;refine zE ?_;exact zO [.tmp 4,.tmp 5] (hq:=by (try simp only[aC,ab]);first | done | (rw[if_neg (by omega)]))
  ·have c2':=of_decide_eq_true c2;cases c3:decide (m/100%2=0)
   ·have c3':=of_decide_eq_false c3;refine aE (n5 h2 hr2 c1 c2 c3) ?_;refine zY ?_;refine zs ?_;refine ai.r0 (by rfl) (gY (bA (m/100) 1 (by omega))) ?_;refine zV ?_;refine zE ?_;exact zO [.tmp 4,.tmp 5] (hq:=by (try simp only[aC,ab]);first | done | (rw[if_pos (by omega)]))
   ·have c3':=of_decide_eq_true c3;refine aE (n5 h2 hr2 c1 c2 c3) ?_;refine gX ?_;refine zE ?_;exact zO [.tmp 4,.tmp 5] (hq:=by (try simp only[aC,ab]);first | done | (rw[if_neg (by omega)]))
 ·have c1':=of_decide_eq_true c1;refine aE (n2 h2 c1) ?_;refine zY ?_;refine zs ?_;refine ai.r0 (by rfl) (gY (bA (m/100) 1 (by omega))) ?_;refine zV ?_;refine zE ?_;exact zO [.tmp 4,.tmp 5] (hq:=by (try simp only[aC,ab]);first | done | (rw[if_pos (by omega)]))
theorem FO(day fr:Int)(hd:0<=day/\day<=40000):PC Tryz.prog 139 [aa day,aa fr] (·=.ag [aa (ke day fr),aa (ke day fr)]):=by
 refine pB 19 Tryz.func139 ?_;refine zV ?_;cases g:decide (day<=fr)
 ·have hg:=of_decide_eq_false g
  have hs:ke day fr=day-(if day-1000000000000<=fr then fr else day-1000000000000):=by rw[ke,if_neg hg]
  have hm:dQ fr (day-1000000000000)=if day-1000000000000<=fr then fr else day-1000000000000:=rfl
  rw[<-hm] at hs
  have hb:fr<=dQ fr (day-1000000000000)/\day-1000000000000<=dQ fr (day-1000000000000)/\dQ fr (day-1000000000000)<=40000:=by unfold dQ;split<;>omega
  rw[hs];have hx:=e8 fr (day-1000000000000);generalize dQ fr (day-1000000000000)=m at hb hx;refine aE g ?_;refine zN ?_;refine aE (n3 (KP (P:=Tryz.prog) (t:=3) (show -9223372036854775808<=day-1000000000000/\day-1000000000000<=9223372036854775807 from⟨by omega,by omega⟩)) hx (KP (P:=Tryz.prog) (t:=3) (show -9223372036854775808<=day-m/\day-m<=9223372036854775807 from⟨by omega,by omega⟩))) ?_;refine zV ?_;refine zE ?_;exact zO [.cell 4 72]
 ·have hs:ke day fr=0:=by rw[ke,if_pos (of_decide_eq_true g)]
  rw[hs];refine aE g ?_;refine cE ?_;refine zE ?_;exact zO [.cell 4 72]
theorem KC(p:aG)(day:Int)(hd:0<=day/\day<=40000):PC Tryz.prog 144 [.ag (ae p),aa day,.ip [.fn 139 [] []]] (·=.ag [aa (ke day p.made),aa (ke day p.made)]):=by
 refine pB 11 Tryz.func144 ?_;refine aE @ae.eq_1 ?_;refine zC ?_;refine zK (FO day p.made hd) ?_;refine zR ?_;refine zE ?_;exact zO [.cell 5 72]
abbrev O0:=List (List Nat×SV)
theorem nK{S:List SO}{o:Nat}{l:O0}(s:List Nat)(u:SV)(hS:S[o]?=some (bO AV.str id l)):e7 Tryz.prog S 188 (.map o) (.a (.str s)) u=some (S.set o (bO AV.str id (dk s u l))):=
 EW (uv:=id) (kt:=9) (et:=186) (by simp only[aw]) fa hS rfl u
def Nq:SV:=.ip [.fn 139 [] []]
def Ln:O0:=dk [97,103,101] (.fn 144 [] [Nq]) (dk [100,97,121,115] (.fn 143 [] [Nq]) (dk [100,97,109,97,103,101] (.fn 142 [] []) (dk [99,121,99,108,101,115] (.fn 141 [] []) (dk [107,109] (.fn 140 [] []) []))))
theorem Hp:PC Tryz.prog 103 [] (·=qG AV.str id Ln):=by
 refine pB 6 Tryz.func103 ?_;refine kQ ?_;refine ai.fg (Fg.freeze (f':=[(1,.ip [.fn 139 [] []])]) 0 rfl (λh=>by cases h) zG) ?_;refine ai.fg (st':=⟨[(1,.ip [.fn 139 [] []])],6,[],[]⟩) zH ?_
 (try change ai _ _ _ _ _)
 have hm0:SO.map [] [] none=bO AV.str (id:SV->SV) []:=rfl;have p1:=λu=>nK (S:=[bO AV.str id []]) (o:=0) (l:=[]) [107,109] u rfl;have p2:=λ(l:O0) u=>nK (S:=[bO AV.str id l]) (o:=0) (l:=l) [99,121,99,108,101,115] u rfl;have p3:=λ(l:O0) u=>nK (S:=[bO AV.str id l]) (o:=0) (l:=l) [100,97,109,97,103,101] u rfl;have p4:=λ(l:O0) u=>nK (S:=[bO AV.str id l]) (o:=0) (l:=l) [100,97,121,115] u rfl;have p5:=λ(l:O0) u=>nK (S:=[bO AV.str id l]) (o:=0) (l:=l) [97,103,101] u rfl;refine zs ?_;refine ai.r0 (by rfl) (by simp only[bx,aX,an,aw,bind_some,map_some,↓reduceIte,reduceEqDiff,reduceAdd,reduceMul,reduceLeDiff,reduceLT,ah,ao,aP,hm0,p1,p2,p3,p4,p5,List.set_cons_zero];first | done | rfl) ?_;refine zE ?_;exact tH.of (rs:=[.tmp 0]) (r:=qG AV.str id Ln) rfl rfl zl (by exact .map rfl (bn.refl rfl)) zq
theorem HK{S:List SO}{l:O0}(s:List Nat)(ok:Bool):eN Tryz.prog S 188 (qG AV.str id l) (.a (.str s)) ok=some (cond ok (.bI [getM (yT (.ga)) s l,aA (dh s l)]) (getM (yT (.ga)) s l)):=
 LY (uv:=id) (u0:=yT (.ga)) (k:=s) (kt:=9) (et:=186) (z:=.ga) (by simp only[aw]) fa (by kernel_rfl) rfl rfl ok
def Rm:List Nat:=[97,103,101]
theorem F7(p:aG)(day:Int)(hd:0<=day/\day<=40000):PC Tryz.prog 56 [.ag (ae p),ak [97,103,101],aa day] (·=.bI [.ag [aa (ke day p.made),aa (ke day p.made)],aa 0]):=by
 refine pB 32 Tryz.func56 ?_;refine aE @ae.eq_1 ?_;refine ai.fg (Fg.freeze (f':=[(1,ak [97,103,101]),(2,aa day),(3,.ip (ae p)),(6,.ptr 1 0),(7,aa 0)]) 0 rfl (λh=>by cases h) (p6 @ae.eq_1)) ?_
 (try change ai _ _ _ _ _)
 have hg:getM (yT (.ga)) [97,103,101] Ln=.fn 144 [] [Nq]:=rfl;have hh:dh [97,103,101] Ln=true:=rfl;refine zC ?_;refine zK Hp ?_ (hfl:=.inr (bn.refl rfl));refine aM.r0 (by rfl) (by simp only[bx,aX,an,aw,bind_some,map_some,↓reduceIte,reduceEqDiff,reduceAdd,reduceMul,reduceLeDiff,reduceLT,ah,ao,aP,HK (l:=Ln) [97,103,101],hg,hh];first | done | rfl) ?_
 (repeat refine ai.seq ?_)
 refine ai.block ?_;refine Gl ?_;refine aE (n2 (show decide (day<0)=false by simp only[decide_eq_false_iff_not];omega) (show decide (40000<day)=false by simp only[decide_eq_false_iff_not];omega)) ?_;refine zN ?_;refine gl (n2 @ae.eq_1 @Nq.eq_1) ?_;refine zK (KC p day hd) ?_;refine zR ?_;refine zE ?_;exact zO [.cell 6 72,.tmp 7]
def k9(ps:List aG)(name:List Nat):Option aG:=ps.find? λp=>decide (p.name=name)
theorem LB{ps:List aG}{name:List Nat}{k:Nat}{p:aG}(hx:ps[k]?=some p)(hp:p.name=name)(hb:((ps.take k).all λp=>!(decide (p.name=name)))=true):k9 ps name=some p:=by
 unfold k9;rw[List.find?_eq_some_iff_getElem];obtain⟨hlt,he⟩:=List.getElem?_eq_some_iff.1 hx;refine⟨by simpa using hp,k,hlt,he,λj hj=>?_⟩;have h1:=all_eq_true.1 hb (ps[j]'(by omega)) (by rw[List.mem_iff_getElem?];exact⟨j,by rw[List.getElem?_take,if_pos hj];exact List.getElem?_eq_getElem (by omega)⟩);simpa using h1
theorem LC{ps:List aG}{name:List Nat}(hb:(ps.all λp=>!(decide (p.name=name)))=true):k9 ps name=none:=by
 unfold k9;rw[List.find?_eq_none];intro p hp;have h1:=all_eq_true.1 hb p hp;simpa using h1
def Gi:List SV:=[ak [],ak [],ak [],ak [],aa 0,aa 0,aA false,cC,aa 0,aa 0,aa 0,aa 0,aa 0,aa 0]
theorem CF(ps:List aG)(name:List Nat)(hlen:ps.length<=1000000):PC Tryz.prog 54 [.ag [an 14 ps ae],ak name] (·=nG ae aG.zero (k9 ps name)):=by
 refine pB 22 Tryz.func54 ?_;refine zV ?_;refine ai.fg (Fg.freeze (f':=[(1,ak name),(2,.ip [an 14 ps ae]),(4,.ptr 1 0)]) 0 rfl (λh=>by cases h) (p6 @an.eq_1)) ?_
 (try change ai _ _ _ _ _)
 refine zV ?_;refine zs ?_;refine zL ps (λk=>((ps.take k).all λp=>!(decide (p.name=name)))=true) (λk=>[(1,ak name),(4,.ptr 1 0),(9,an 14 ps ae),(10,aa ps.length),(11,aa k)]) (λk=>[.gone,.cells Gi]) (cI @Gi.eq_1) zp ?_;intro k hk hall;refine zV ?_;by_cases hlt:k<ps.length;rotate_left;obtain rfl:k=ps.length:=(by omega);rw[zf];rotate_left;rw[zt hlt];obtain⟨p,hx⟩:=zx hlt;rotate_left
 ·refine zN ?_;refine ai.exit ?_;rw[take_length] at hall;rw[LC hall];refine aE @Gi.eq_1 ?_;refine zE ?_;exact zO [.cell 4 116,.tmp 5] (r:=.bI [.ag (ae aG.zero),aA false]) (hw:=by exact .bI (.cons (.ag (.cons (.a _) (.cons (.a _) (.cons (.a _) (.cons (.a _) (.cons (.a _) (.cons (.a _) (.cons (.a _) (.cons (.nil 2) (bn.refl rfl)))))))))) (bn.refl rfl)))
 refine zY ?_
 (repeat refine ai.seq ?_)
 refine ai.block ?_;refine aE (n4 hlt (aH (e:=14) (enc:=ae) (λ_=>rfl) hx) @ae.eq_1 @Gi.eq_1) ?_;cases he:decide (p.name=name)
 ·refine aE he ?_;refine zN ?_;refine aE (zi hlt hlen) ?_;refine zX hlt (cI (n2 @ae.eq_1 @Gi.eq_1)) (by rw[bo hx,List.all_append,hall];show(true&&(!(decide (p.name=name))&&true))=true;rw[he];rfl)
 ·rw[LB hx (of_decide_eq_true he) hall];refine aE he ?_;refine zY ?_;refine aE @ae.eq_1 ?_;refine zE ?_;exact zO [.cell 4 116,.tmp 5]
end Go.Proofs
