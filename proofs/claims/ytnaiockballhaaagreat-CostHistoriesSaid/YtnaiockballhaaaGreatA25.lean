/- A part of the texts of this claim: every theorem says what it proves, with its conditions. -/
import Derived.Test.YtnaiockballhaaaGreatA24
import Derived.Test.YtnaiockballhaaaGreatA23
import Derived.Test.YtnaiockballhaaaGreatA17
set_option linter.unusedSimpArgs false
set_option linter.unusedVariables false
set_option linter.unusedSectionVars false
open Option (map_some bind_some)
open Nat (reduceAdd reduceEqDiff reduceLT reduceLeDiff reduceMul)
open List (getElem?_eq_getElem getElem?_map)
namespace Go.Proofs
open Go.Ev
set_option maxRecDepth 100000
theorem BX{α:Type}{p:α->Bool}{l:List α}:decide (0<=jf p l)=l.any p:=by
 rcases sn p l with⟨g1,g2⟩ | ⟨k,x,g1,hlt,hx,g2⟩
 ·rw[g1];rw[List.find?_eq_none] at g2
  have:l.any p=false:=by
   rw[List.any_eq_false];exact g2
  rw[this];rfl
 ·rw[g1];have:l.any p=true:=List.any_eq_true.2 ⟨x,List.mem_of_find?_eq_some g2,List.find?_some g2⟩;rw[this];simp
theorem Fo{l:List (List Nat)}(p:List Nat->Bool){fid:FuncId}{first cap:List SV}(hlen:l.length<=1000000)(hp:∀x∈l,PC Tryz.prog fid ((first++[ak x])++cap) (·=aA (p x)))(hg:cr first=true/\cr cap=true):PC Tryz.prog 101 [an 1 l (az ak),.fn fid first cap] (·=aA (l.any p)):=by
 refine pB 9 Tryz.func101 ?_;refine ki ?_;refine zK (FC p hlen hp hg) ?_ (hwk:=.cons (Wk.sl _ _ _) (.cons (.fn (bn.refl hg.1) (bn.refl hg.2)) .nil));refine zR ?_;refine zE ?_;exact zO [.tmp 4] (hq:=by (try simp only[aC,ab]);first | done | (rw[BX]))
structure bB where
 op:Int
 day:Int
 part:List Nat
 kind:List Nat
 bD:List Nat
 slot:List Nat
 key:List Nat
 value:List Nat
 u1:Int
 u2:Int
 u3:Int
 u4:Int
 u5:Int
 u6:Int
 deriving DecidableEq
def aF(e:bB):List SV:=[aa e.op,aa e.day,ak e.part,ak e.kind,ak e.bD,ak e.slot,ak e.key,ak e.value,aa e.u1,aa e.u2,aa e.u3,aa e.u4,aa e.u5,aa e.u6]
def bB.av(e:bB):List AV:=[.int .i64 e.op,.int .i64 e.day,.str e.part,.str e.kind,.str e.bD,.str e.slot,.str e.key,.str e.value,.int .i64 e.u1,.int .i64 e.u2,.int .i64 e.u3,.int .i64 e.u4,.int .i64 e.u5,.int .i64 e.u6]
def bB.zero:bB:=⟨0,0,[],[],[],[],[],[],0,0,0,0,0,0⟩
def bB.Ra:List Kd:=[.i .i64,.i .i64,.s,.s,.s,.s,.s,.s,.i .i64,.i .i64,.i .i64,.i .i64,.i .i64,.i .i64]
theorem bB.eq(a b:bB):hY gx a.av b.av=decide (a=b):=by
 obtain⟨a1,a2,a3,a4,a5,a6,a7,a8,a9,a10,a11,a12,a13,a14⟩:=a;obtain⟨b1,b2,b3,b4,b5,b6,b7,b8,b9,b10,b11,b12,b13,b14⟩:=b;simp only[bB.av,hY,gx,xF,xe,mY,Bool.true_and,Bool.and_true,bB.mk.injEq,Bool.decide_and]
theorem FE:wz Tryz.prog 76 λe:bB=>.agg e.av:=
 AN (ks:=bB.Ra) (by kernel_rfl) (by simp only[aw,map_some]) (λ_=>rfl) bB.eq λ_=>rfl
theorem Bj(a b:bB):cM Tryz.prog .eql 76 (.agg a.av) (.agg b.av)=some (.bool (decide (a=b))):=
 Du (ks:=bB.Ra) (by kernel_rfl) (by kernel_rfl) (by simp only[aw,map_some]) rfl rfl (bB.eq a b)
def PF:List (List Nat):=[[],[109,97,107,101],[102,105,116],[114,101,109,111,118,101],[114,117,110],[111,118,101,114,104,97,117,108],[110,111,116,101],[115,99,114,97,112]]
def Gf(op:Int):List Nat:=if op<0\/8<=op then [] else (PF[op.toNat]?).getD []
theorem H5(op:Int):PC Tryz.prog 99 [aa op] (·=ak (Gf op)):=by
 refine pB 14 Tryz.func99 ?_;refine kQ ?_;cases h1:decide (op<0);rotate_left
 ·refine aE h1 ?_;refine cE ?_;refine zE ?_;exact zO [.tmp 2] (hq:=by (try simp only[aC,ab]);first | done | (rw[Gf,if_pos (.inl (of_decide_eq_true h1))]))
 cases h2:decide (8<=op);rotate_left
 ·refine aE (n2 h1 h2) ?_;refine cE ?_;refine zE ?_;exact zO [.tmp 2] (hq:=by (try simp only[aC,ab]);first | done | (rw[Gf,if_pos (.inr (of_decide_eq_true h2))]))
 refine aE (n2 h1 h2) ?_;refine zN ?_
 have hop:op=0\/op=1\/op=2\/op=3\/op=4\/op=5\/op=6\/op=7:=by simp only[decide_eq_false_iff_not] at h1 h2;omega
 rcases hop with rfl | rfl | rfl | rfl | rfl | rfl | rfl | rfl<;>(refine zV ?_ ;refine zE ?_;exact zO [.tmp 2])
theorem yF(a b c d e f:SV):PC Tryz.prog 100 [.ip [a,b,c,d,e,f]] (·=.ag [.ip [a,b,c,d,e,f],.ip [c,d,e,f],.ip [e,f]]):=by
 refine pB 13 Tryz.func100 ?_;refine zV ?_;refine zs ?_;refine oW [0,1,3,0,8,24,0,64,192,511,1023] ?_;refine zD ?_;refine SD.e (by rfl) rfl (by rfl) rfl rfl (by rfl) zl ?_;refine zM ?_;refine zE ?_;exact zO [.cell 2 182]
theorem CT(s:List Nat)(h:iV s):PC Tryz.prog 102 [ak s] (·=aA (!cO s)):=by
 refine pB 6 Tryz.func102 ?_;refine ki ?_;refine zK (eV s h) ?_;refine zR ?_;refine zE ?_;exact zO [.tmp 2]
def jv(a b:Int):Bool:=!(decide (a<0))&&(!(decide (b<a))&&!(decide (1000000<b)))
def bB.use(e:bB):Bool:=jv e.u1 e.u2&&(jv e.u3 e.u4&&jv e.u5 e.u6)
def bB.rest(e:bB):bB:=
 if e.op=1 then ⟨0,0,[],[],e.bD,e.slot,e.key,e.value,e.u1,e.u2,e.u3,e.u4,e.u5,e.u6⟩
 else if e.op=2 then ⟨0,0,[],e.kind,[],[],e.key,e.value,e.u1,e.u2,e.u3,e.u4,e.u5,e.u6⟩
 else if e.op=6 then ⟨0,0,[],e.kind,e.bD,e.slot,[],[],e.u1,e.u2,e.u3,e.u4,e.u5,e.u6⟩
 else if e.op=4 then ⟨0,0,[],e.kind,e.bD,e.slot,e.key,e.value,0,0,0,0,0,0⟩
 else ⟨0,0,[],e.kind,e.bD,e.slot,e.key,e.value,e.u1,e.u2,e.u3,e.u4,e.u5,e.u6⟩
def bB.names(e:bB):List (List Nat):=if e.op=1 then [e.kind] else if e.op=2 then [e.bD,e.slot] else if e.op=6 then [e.key] else []
def bB.kn(e:bB):Bool:=
 if e.op=1 then true else if e.op=2 then !(decide (e.bD=e.part)) else if e.op=6 then !(decide (e.value=[]))&&!(decide (200<(e.value.length:Int))) else if e.op=4 then e.use else true
def gf(e:bB):Bool:=!(decide (Gf e.op=[]))&&(!(decide (e.day<0))&&(!(decide (40000<e.day))&&(cO e.part&&(e.kn&&(decide (e.rest=bB.zero)&&!(e.names.any λs=>!cO s))))))
structure oZ (e:bB):Prop where
 part:iV e.part
 kind:iV e.kind
 bD:iV e.bD
 slot:iV e.slot
 key:iV e.key
 value:iV e.value
theorem yw(a1 a2:Int)(a3 a4 a5 a6 a7 a8:List Nat)(a9 a10 a11 a12 a13 a14:Int):cM Tryz.prog .eql 76 (.agg [.int .i64 a1,.int .i64 a2,.str a3,.str a4,.str a5,.str a6,.str a7,.str a8,.int .i64 a9,.int .i64 a10,.int .i64 a11,.int .i64 a12,.int .i64 a13,.int .i64 a14]) (.agg [.int .i64 0,.int .i64 0,.str [],.str [],.str [],.str [],.str [],.str [],.int .i64 0,.int .i64 0,.int .i64 0,.int .i64 0,.int .i64 0,.int .i64 0])=some (.bool (decide ((⟨a1,a2,a3,a4,a5,a6,a7,a8,a9,a10,a11,a12,a13,a14⟩:bB)=bB.zero))):=
 Bj ⟨a1,a2,a3,a4,a5,a6,a7,a8,a9,a10,a11,a12,a13,a14⟩ bB.zero
set_option maxHeartbeats 2000000 in
theorem pV(e:bB)(he:oZ e):PC Tryz.prog 53 [.ag (aF e)] (·=aA (gf e)):=by
 refine pB 111 Tryz.func53 ?_;refine aE @aF.eq_1 ?_;refine zC ?_;refine zK (H5 e.op) ?_;cases h1:decide (Gf e.op=[]);rotate_left
 ·refine cS h1 ?_;refine cE ?_;refine zE ?_;exact zO [.tmp 2] (hq:=by (try simp only[aC,ab]);first | done | (rw[gf,h1];rfl))
 cases h2:decide (e.day<0);rotate_left
 ·refine cS (n2 h1 h2) ?_;refine cE ?_;refine zE ?_;exact zO [.tmp 2] (hq:=by (try simp only[aC,ab]);first | done | (rw[gf,h1,h2];rfl))
 cases h3:decide (40000<e.day);rotate_left
 ·refine cS (n3 h1 h2 h3) ?_;refine cE ?_;refine zE ?_;exact zO [.tmp 2] (hq:=by (try simp only[aC,ab]);first | done | (rw[gf,h1,h2,h3];rfl))
 refine PH (n3 h1 h2 h3) ?_;refine zK (eV e.part he.part) ?_;cases h4:cO e.part
 ·refine zR ?_;refine cE ?_;refine zE ?_;exact zO [.tmp 2] (hq:=by (try simp only[aC,ab]);first | done | (rw[gf,h1,h2,h3,h4];rfl))
 refine zR ?_;refine zN ?_
 have hv:gf e=(e.kn&&(decide (e.rest=bB.zero)&&!(e.names.any λs=>!cO s))):=by rw[gf,h1,h2,h3,h4];rfl
 clear h1 h2 h3 h4
 have hn:∀s∈e.names,iV s:=by
  intro s hs;unfold bB.names at hs;split at hs
  ·rw[List.mem_singleton.1 hs];exact he.kind
  split at hs
  ·rcases List.mem_cons.1 hs with rfl | hs
   ·exact he.bD
   ·rw[List.mem_singleton.1 hs];exact he.slot
  split at hs
  ·rw[List.mem_singleton.1 hs];exact he.key
  ·cases hs
 have hnl:e.names.length<=1000000:=by
  unfold bB.names
  repeat' split
  all_goals simp
 refine kQ ?_;refine kQ ?_
 (repeat refine ai.seq ?_)
 refine ai.mono (Q:=λex st=>(ex=.normal/\e.kn=true/\Fg st ⟨[(3,.sl e.names.length 1 (e.names.flatMap (az ak))),(4,.ptr 2 0)],111,[.gone,.gone,.cells (aF e.rest)],[]⟩)\/(ex=.ret/\tH Tryz.prog Tryz.f53 (·=aA (gf e)) .ret st)) ?_ ?_;rotate_left
 ·rintro ex st (⟨rfl,hm,hf⟩ | ⟨rfl,hs⟩);rotate_left
  ·exact hs
  change ai _ _ _ _ _;refine ai.fg hf ?_;rw[hv,hm,Bool.true_and];cases r:decide (e.rest=bB.zero)
  ·refine aE (n3 @aF.eq_1 @yw r) ?_;refine zE ?_;exact zO [.tmp 2]
  ·refine gl (n3 @aF.eq_1 @yw r) ?_;refine zK (Fo (λs=>!cO s) (l:=e.names) (first:=[]) (cap:=[]) hnl (λx hx=>CT x (hn x hx)) ⟨rfl,rfl⟩) ?_;refine zR ?_;refine zE ?_;exact zO [.tmp 2]
 have hrest:∀a1 a2 a3 a4 a5 a6 a7 a8 a9 a10 a11 a12 a13 a14,e.rest=(⟨a1,a2,a3,a4,a5,a6,a7,a8,a9,a10,a11,a12,a13,a14⟩:bB)->aF e.rest=[aa a1,aa a2,ak a3,ak a4,ak a5,ak a6,ak a7,ak a8,aa a9,aa a10,aa a11,aa a12,aa a13,aa a14]:=by
  intros;simp only[*,aF]
 refine ai.block ?_;refine zV ?_;cases k1:decide (e.op=1);rotate_left
 ·have k1':=of_decide_eq_true k1;refine cE ?_;have hr:=hrest _ _ _ _ _ _ _ _ _ _ _ _ _ _ (show e.rest=_ by unfold bB.rest;rw[if_pos k1'])
  have hnm:e.names=[e.kind]:=by unfold bB.names;rw[if_pos k1']
  refine .inl ⟨rfl,by unfold bB.kn;rw[if_pos k1'],?_⟩;rw[hr,hnm];exact Fg.trans (Fg.freeze (f':=[(3,.sl 1 1 [ak e.kind]),(4,.ptr 2 0)]) 3 rfl (λh=>by cases h) zG) zH
 have n1:=of_decide_eq_false k1;refine gX ?_;cases k2:decide (e.op=2);rotate_left
 ·have k2':=of_decide_eq_true k2
  have hmid:e.kn=!(decide (e.bD=e.part)):=by unfold bB.kn;rw[if_neg n1,if_pos k2']
  refine cE ?_;cases j1:decide (e.bD=e.part);rotate_left
  ·refine cE ?_;refine ai.ret ?_;refine .inr ⟨rfl,?_⟩;exact zO [.tmp 2] (hq:=by (try simp only[aC,ab]);first | done | (rw[hv,hmid,j1];rfl))
  refine gX ?_;have hr:=hrest _ _ _ _ _ _ _ _ _ _ _ _ _ _ (show e.rest=_ by unfold bB.rest;rw[if_neg n1,if_pos k2'])
  have hnm:e.names=[e.bD,e.slot]:=by unfold bB.names;rw[if_neg n1,if_pos k2']
  refine .inl ⟨rfl,by rw[hmid,j1];rfl,?_⟩;rw[hr,hnm];exact Fg.trans (Fg.freeze (f':=[(3,.sl 2 1 [ak e.bD,ak e.slot]),(4,.ptr 2 0)]) 3 rfl (λh=>by cases h) zG) zH
 have n2:=of_decide_eq_false k2;refine gX ?_;cases k6:decide (e.op=6);rotate_left
 ·have k6':=of_decide_eq_true k6
  have hmid:e.kn=(!(decide (e.value=[]))&&!(decide (200<(e.value.length:Int)))):=by unfold bB.kn;rw[if_neg n1,if_neg n2,if_pos k6']
  refine zY ?_;cases j1:decide (e.value=[]);rotate_left
  ·refine aE j1 ?_;refine cE ?_;refine ai.ret ?_;refine .inr ⟨rfl,?_⟩;exact zO [.tmp 2] (hq:=by (try simp only[aC,ab]);first | done | (rw[hv,hmid,j1];rfl))
  cases j2:decide (200<(e.value.length:Int));rotate_left
  ·refine zs ?_;refine ai.r0 (by rfl) (by simp only[bx,aX,an,aw,bind_some,map_some,↓reduceIte,reduceEqDiff,reduceAdd,reduceMul,reduceLeDiff,reduceLT,ah,ao,aP,j1,j2];first | done | rfl) ?_;refine cE ?_;refine ai.ret ?_;refine .inr ⟨rfl,?_⟩;exact zO [.tmp 2] (hq:=by (try simp only[aC,ab]);first | done | (rw[hv,hmid,j1,j2];rfl))
  refine zs ?_;refine ai.r0 (by rfl) (by simp only[bx,aX,an,aw,bind_some,map_some,↓reduceIte,reduceEqDiff,reduceAdd,reduceMul,reduceLeDiff,reduceLT,ah,ao,aP,j1,j2];first | done | rfl) ?_;refine gX ?_;have hr:=hrest _ _ _ _ _ _ _ _ _ _ _ _ _ _ (show e.rest=_ by unfold bB.rest;rw[if_neg n1,if_neg n2,if_pos k6'])
  have hnm:e.names=[e.key]:=by unfold bB.names;rw[if_neg n1,if_neg n2,if_pos k6']
  refine .inl ⟨rfl,by rw[hmid,j1,j2];rfl,?_⟩;rw[hr,hnm];exact Fg.trans (Fg.freeze (f':=[(3,.sl 1 1 [ak e.key]),(4,.ptr 2 0)]) 3 rfl (λh=>by cases h) zG) zH
 have n6:=of_decide_eq_false k6
 have hnm:e.names=[]:=by unfold bB.names;rw[if_neg n1,if_neg n2,if_neg n6]
 refine gX ?_;cases k4:decide (e.op=4)
 ·have n4:=of_decide_eq_false k4;refine zN ?_;have hr:=hrest _ _ _ _ _ _ _ _ _ _ _ _ _ _ (show e.rest=_ by unfold bB.rest;rw[if_neg n1,if_neg n2,if_neg n6,if_neg n4]);refine .inl ⟨rfl,by unfold bB.kn;rw[if_neg n1,if_neg n2,if_neg n6,if_neg n4],?_⟩;rw[hr,hnm];exact Fg.trans (Fg.freeze (f':=[(3,.sl 0 1 []),(4,.ptr 2 0)]) 1 rfl (λh=>by cases h) zG) zH
 have k4':=of_decide_eq_true k4
 have hmid:e.kn=e.use:=by unfold bB.kn;rw[if_neg n1,if_neg n2,if_neg n6,if_pos k4']
 refine zY ?_;refine ai.fg (Fg.freeze (f':=[(1,.ip (aF e)),(3,.buf 1 0 1 (some 0)),(4,.ptr 2 0)]) 0 rfl (λh=>by cases h) (p6 @aF.eq_1)) ?_;refine gl @aF.eq_1 ?_;refine zK (yF (aa e.u1) (aa e.u2) (aa e.u3) (aa e.u4) (aa e.u5) (aa e.u6)) ?_ (hfl:=.inr (bn.refl rfl));refine zR ?_
 (repeat refine ai.seq ?_)
 refine ai.block (ai.loop (λm st=>∃k:Nat,k<=3/\m=3-k/\(0<k->jv e.u1 e.u2=true)/\(1<k->jv e.u3 e.u4=true)/\(2<k->jv e.u5 e.u6=true)/\st=⟨[(3,.buf 1 0 1 (some 0)),(4,.ptr 2 0),(73,.ag [.ip [aa e.u1,aa e.u2,aa e.u3,aa e.u4,aa e.u5,aa e.u6],.ip [aa e.u3,aa e.u4,aa e.u5,aa e.u6],.ip [aa e.u5,aa e.u6]]),(74,aa k)],111,[.gone,.cells [],.cells [aa 0,aa 0,ak [],ak e.kind,ak e.bD,ak e.slot,ak e.key,ak e.value,aa e.u1,aa e.u2,aa e.u3,aa e.u4,aa e.u5,aa e.u6]],[]⟩) 3 zH ⟨0,by omega,rfl,λh=>absurd h (by omega),λh=>absurd h (by omega),λh=>absurd h (by omega),rfl⟩ (by rintro m st ⟨k,_,_,_,_,_,rfl⟩;rfl) ?_);rintro m st ⟨k,hk,rfl,u1,u2,u3,rfl⟩;refine zV ?_;by_cases hlt:k<3;rotate_left
 ·obtain rfl:k=3:=by omega
  refine zN ?_;refine ai.exit ?_;refine aE (show dm Tryz.prog 74=some (.agg [.int .i64 0,.int .i64 0,.int .i64 0,.int .i64 0,.int .i64 0,.int .i64 0]) by simp only[aw]) ?_;have hr:=hrest _ _ _ _ _ _ _ _ _ _ _ _ _ _ (show e.rest=_ by unfold bB.rest;rw[if_neg n1,if_neg n2,if_neg n6,if_pos k4']);refine .inl ⟨rfl,by rw[hmid,bB.use,u1 (by omega),u2 (by omega),u3 (by omega)];rfl,?_⟩;rw[hr,hnm];exact Fg.trans (Fg.freeze (f':=[(3,.sl 0 1 []),(4,.ptr 2 0)]) 1 rfl (λh=>by cases h) zG) zH
 rw[show decide ((k:Int)<3)=true by simp only[decide_eq_true_eq];omega]
 obtain⟨a,b,l,hab,hno,hyes⟩:∃(a b:Int) (l:List SV),([.ip [aa e.u1,aa e.u2,aa e.u3,aa e.u4,aa e.u5,aa e.u6],.ip [aa e.u3,aa e.u4,aa e.u5,aa e.u6],.ip [aa e.u5,aa e.u6]]:List SV)[k*1]?=some (.ip (aa a::aa b::l))/\(jv a b=false->e.use=false)/\(jv a b=true->(0<k+1->jv e.u1 e.u2=true)/\(1<k+1->jv e.u3 e.u4=true)/\(2<k+1->jv e.u5 e.u6=true)):=by
  have:k=0\/k=1\/k=2:=by omega
  rcases this with rfl | rfl | rfl
  ·exact⟨_,_,_,rfl,λh=>by rw[bB.use,h];rfl,λh=>⟨λ_=>h,λh=>by omega,λh=>by omega⟩⟩
  ·exact⟨_,_,_,rfl,λh=>by rw[bB.use,h,Bool.false_and,Bool.and_false],λh=>⟨λ_=>u1 (by omega),λ_=>h,λh=>by omega⟩⟩
  ·exact⟨_,_,_,rfl,λh=>by rw[bB.use,h,Bool.and_false,Bool.and_false],λh=>⟨λ_=>u1 (by omega),λ_=>u2 (by omega),λ_=>h⟩⟩
 refine zY ?_
 (repeat refine ai.seq ?_)
 refine ai.block ?_;refine zs ?_;refine ai.r0 (by rfl) (by simp only[bx,aX,an,aw,bind_some,map_some,↓reduceIte,reduceEqDiff,reduceAdd,reduceMul,reduceLeDiff,reduceLT,ah,ao,aP,hlt,hab];first | done | rfl) ?_;cases c1:decide (a<0);rotate_left
 ·refine zs ?_;refine oW [0,1,3,7,15,31,63,127,255,511,63,1087,3135,7231,16383,32767,65535,131071,262143,524287,1048575,2097151,4194303] ?_;refine nL c1 ?_;refine zM ?_;refine cE ?_;refine ai.ret ?_;refine .inr ⟨rfl,?_⟩;exact zO [.tmp 2] (hq:=by (try simp only[aC,ab]);first | done | (rw[hv,hmid,hno (by simp[jv,of_decide_eq_true c1])];rfl))
 cases c2:decide (b<a);rotate_left
 ·refine zs ?_;refine oW [0,1,3,7,15,31,63,127,255,511,63,1087,3135,7231,16383,32767,65535,131071,262143,524287,1048575,2097151,4194303] ?_
  (repeat (first | refine SD.r (by rfl) rfl (by rfl) (by rfl) (by simp only[bx,aX,an,aw,bind_some,map_some,↓reduceIte,reduceEqDiff,reduceAdd,reduceMul,reduceLeDiff,reduceLT,ah,ao,aP,c1,c2];first | done | rfl) ?_ | refine SD.s (by rfl) rfl (by rfl) (by rfl) ?_ | fail))
  refine zM ?_;refine cE ?_;refine ai.ret ?_;refine .inr ⟨rfl,?_⟩;exact zO [.tmp 2] (hq:=by (try simp only[aC,ab]);first | done | (rw[hv,hmid,hno (by simp[jv,of_decide_eq_true c2])];rfl))
 cases c3:decide (1000000<b);rotate_left
 ·refine zs ?_;refine oW [0,1,3,7,15,31,63,127,255,511,63,1087,3135,7231,16383,32767,65535,131071,262143,524287,1048575,2097151,4194303] ?_;refine nL (n3 c1 c2 c3) ?_;refine zM ?_;refine cE ?_;refine ai.ret ?_;refine .inr ⟨rfl,?_⟩;exact zO [.tmp 2] (hq:=by (try simp only[aC,ab]);first | done | (rw[hv,hmid,hno (by simp[jv,of_decide_eq_true c3])];rfl))
 refine zs ?_;refine oW [0,1,3,7,15,31,63,127,255,511,63,1087,3135,7231,16383,32767,65535,131071,262143,524287,1048575,2097151,4194303] ?_;refine nL (n3 c1 c2 c3) ?_;refine zM ?_;refine zN ?_;obtain⟨y1,y2,y3⟩:=hyes (by rw[jv,c1,c2,c3];rfl);refine aE (nh (show -9223372036854775808<=(k:Int)+1/\(k:Int)+1<=9223372036854775807 from⟨by omega,by omega⟩)) ?_;refine⟨3-(k+1),_,by omega,zH,k+1,by omega,rfl,y1,y2,y3,rfl⟩
def G1(a b:List Nat):List Nat:=cond (gk a b||tE a b) a b
def GZ(a b:List Nat):List Nat:=cond (gk a b) b a
def cA(e:bB):List (List Nat):=if gf e=false then [] else if e.op=2 then [G1 e.part e.bD,GZ e.part e.bD] else [e.part]
theorem NT(a b:List Nat):rj false (.str a) (.str b)=some (.str (G1 a b)):=rfl
theorem NQ(a b:List Nat):rj true (.str a) (.str b)=some (.str (GZ a b)):=rfl
theorem tp(e:bB)(he:oZ e):PC Tryz.prog 108 [.ag (aF e)] (·=an 1 (Proofs.cA e) (az ak)):=by
 refine pB 25 Tryz.func108 ?_;refine aE @aF.eq_1 ?_
 (repeat refine ai.seq ?_)
 refine ai.block ?_;refine zC ?_;refine zK (pV e he) ?_;cases h1:gf e
 ·refine zR ?_;refine cE ?_;refine zE ?_;exact zO [.tmp 2] (r:=.sl 0 1 []) (hw:=zv) (hq:=by (try simp only[aC,ab]);first | done | (rw[Proofs.cA,if_pos h1];rfl))
 refine zR ?_;refine gX ?_;cases h2:decide (e.op=2)
 ·refine gX ?_;refine zE ?_;exact zO [.tmp 2] (r:=.sl 1 1 [ak e.part]) (hw:=zv) (hq:=by (try simp only[aC,ab]);first | done | (rw[Proofs.cA,if_neg (by rw[h1];decide),if_neg (of_decide_eq_false h2)];rfl))
 ·refine zY ?_;refine aE (n2 @NT @NQ) ?_;refine zE ?_;exact zO [.tmp 2] (r:=.sl 2 1 [ak (G1 e.part e.bD),ak (GZ e.part e.bD)]) (hw:=zv) (hq:=by (try simp only[aC,ab]);first | done | (rw[Proofs.cA,if_neg (by rw[h1];decide),if_pos (of_decide_eq_true h2)];rfl))
structure bq where
 opts:List bB
 oM:Bool
def aD(r:bq):List SV:=[an 14 r.opts aF,aA r.oM]
structure ea (r:bq):Prop where
 len:r.opts.length<=1000000
 ev:∀e∈r.opts,oZ e
def PM(e:bB):AV:=.agg e.av
theorem yJ{S:List SO}{o:Nat}{l:List (bB×Bool)}(a1 a2:Int)(a3 a4 a5 a6 a7 a8:List Nat)(a9 a10 a11 a12 a13 a14:Int)(ok:Bool)(hS:S[o]?=some (bO PM aA l)):eN Tryz.prog S 124 (.map o) (.ag [aa a1,aa a2,ak a3,ak a4,ak a5,ak a6,ak a7,ak a8,aa a9,aa a10,aa a11,aa a12,aa a13,aa a14]) ok=some (cond ok (.bI [aA (getM false (⟨a1,a2,a3,a4,a5,a6,a7,a8,a9,a10,a11,a12,a13,a14⟩:bB) l),aA (dh (⟨a1,a2,a3,a4,a5,a6,a7,a8,a9,a10,a11,a12,a13,a14⟩:bB) l)]) (aA (getM false (⟨a1,a2,a3,a4,a5,a6,a7,a8,a9,a10,a11,a12,a13,a14⟩:bB) l))):=
 AU (uv:=aA) (u0:=false) (k:=(⟨a1,a2,a3,a4,a5,a6,a7,a8,a9,a10,a11,a12,a13,a14⟩:bB)) (kt:=76) (et:=4) (z:=.bool false) (by simp only[aw]) FE (by simp only[aw]) rfl hS rfl ok
theorem KL{S:List SO}{o:Nat}{l:List (bB×Bool)}(a1 a2:Int)(a3 a4 a5 a6 a7 a8:List Nat)(a9 a10 a11 a12 a13 a14:Int)(u:Bool)(hS:S[o]?=some (bO PM aA l)):e7 Tryz.prog S 124 (.map o) (.ag [aa a1,aa a2,ak a3,ak a4,ak a5,ak a6,ak a7,ak a8,aa a9,aa a10,aa a11,aa a12,aa a13,aa a14]) (.a (.bool u))=some (S.set o (bO PM aA (dk (⟨a1,a2,a3,a4,a5,a6,a7,a8,a9,a10,a11,a12,a13,a14⟩:bB) u l))):=
 EW (uv:=aA) (k:=(⟨a1,a2,a3,a4,a5,a6,a7,a8,a9,a10,a11,a12,a13,a14⟩:bB)) (kt:=76) (et:=4) (by simp only[aw]) FE hS rfl u
theorem Pf{n:Nat}{l:List (bB×Bool)}:bP n (bO PM aA l)=bO PM aA l:=lH λ_=>ko _
def pK:List (bB×Bool)->List bB->Bool
 | _,[]=>true
 | seen,e::es=>!(getM false e seen||!gf e)&&pK (dk e true seen) es
def iT(r:bq):Bool:=!(decide ((r.opts.length:Int)=0))&&(!(decide (4<(r.opts.length:Int)))&&pK [] r.opts)
set_option maxHeartbeats 1000000 in
theorem pX(r:bq)(hr:ea r):PC Tryz.prog 24 [.ag (aD r)] (·=aA (Proofs.iT r)):=by
 have hlen:=hr.len;refine pB 35 Tryz.func24 ?_;refine aE @aD.eq_1 ?_;cases h1:decide ((r.opts.length:Int)=0);rotate_left
 ·refine aE h1 ?_;refine cE ?_;refine zE ?_;exact zO [.tmp 2] (hq:=by (try simp only[aC,ab]);first | done | (rw[Proofs.iT,h1];rfl))
 cases h2:decide (4<(r.opts.length:Int));rotate_left
 ·refine aE (n2 h1 h2) ?_;refine cE ?_;refine zE ?_;exact zO [.tmp 2] (hq:=by (try simp only[aC,ab]);first | done | (rw[Proofs.iT,h1,h2];rfl))
 refine aE (n2 h1 h2) ?_;refine zN ?_
 have hv:Proofs.iT r=pK [] r.opts:=by rw[Proofs.iT,h1,h2];rfl
 refine kQ ?_;refine zs ?_;refine ai.block (ai.loop (λm st=>∃k:Nat,∃seen:List (bB×Bool),k<=r.opts.length/\m=r.opts.length-k/\(pK [] r.opts=pK seen (r.opts.drop k))/\st=⟨[(3,.map 1),(18,an 14 r.opts aF),(19,aa r.opts.length),(20,aa k)],35,[.gone,bO PM aA seen],[]⟩) r.opts.length (Fg.less uR yS) ⟨0,[],Nat.zero_le _,rfl,(by rfl),rfl⟩ (by rintro m st ⟨k,_,_,_,_,rfl⟩;rfl) ?_);rintro m st ⟨k,seen,hk,rfl,hall,rfl⟩;refine zs ?_;refine ai.r0 (by rfl) zl ?_;by_cases hlt:k<r.opts.length;rotate_left;obtain rfl:k=r.opts.length:=(by omega);rw[show decide ((r.opts.length:Int)<(r.opts.length:Int))=false by simp];rotate_left;rw[show decide ((k:Int)<(r.opts.length:Int))=true by simp only[decide_eq_true_eq];omega];obtain⟨e,hx⟩:∃zz,r.opts[k]?=some zz:=⟨r.opts[k],getElem?_eq_getElem hlt⟩;rotate_left
 ·refine zN ?_;refine ai.exit ?_;refine zV ?_;refine zE ?_;exact zO [.tmp 2] (hq:=by (try simp only[aC,ab]);first | done | (rw[hv,hall,List.drop_length];rfl))
 have no:pK seen (r.opts.drop k)=false->Proofs.iT r=false:=λh=>by rw[hv,hall,h]
 rw[eZ hx] at no hall;have he:=hr.ev e (List.mem_iff_getElem?.2 ⟨k,hx⟩);refine zY ?_
 (repeat refine ai.seq ?_)
 refine ai.block ?_;refine aE (n4 hlt (aH (e:=14) (enc:=aF) (λ_=>rfl) hx) @aF.eq_1 @Pf) ?_;cases g1:getM false e seen;rotate_left
 ·have g1':getM false (⟨e.op,e.day,e.part,e.kind,e.bD,e.slot,e.key,e.value,e.u1,e.u2,e.u3,e.u4,e.u5,e.u6⟩:bB) seen=true:=g1;refine zs ?_;refine ai.r0 (by rfl) (by simp only[bx,aX,an,aw,bind_some,map_some,↓reduceIte,reduceEqDiff,reduceAdd,reduceMul,reduceLeDiff,reduceLT,ah,ao,aP,yJ (l:=seen),g1'];first | done | rfl) ?_;refine zs ?_;refine ai.yes rfl ?_;(try (refine ai.skip ?_;try change ai _ _ _ _ _));refine zs ?_;refine ai.r0 (by rfl) zl ?_;refine zE ?_;exact tH.of (rs:=[.tmp 2]) rfl rfl zl (Wk.refl rfl) (by (try simp only[aC,ab]);first | done | (rw[no (by simp[pK,g1])]))
 have g1':getM false (⟨e.op,e.day,e.part,e.kind,e.bD,e.slot,e.key,e.value,e.u1,e.u2,e.u3,e.u4,e.u5,e.u6⟩:bB) seen=false:=g1;refine zs ?_;refine ai.M8 (by rfl) (by simp only[bx,aX,an,aw,bind_some,map_some,↓reduceIte,reduceEqDiff,reduceAdd,reduceMul,reduceLeDiff,reduceLT,ah,ao,aP,yJ (l:=seen),g1'];first | done | rfl) ?_;refine zK (pV e he) ?_;cases g2:gf e
 ·refine zR ?_;refine cE ?_;refine zE ?_;exact zO [.tmp 2] (hq:=by (try simp only[aC,ab]);first | done | (rw[no (by simp[pK,g2])]))
 refine zR ?_;refine zN ?_
 have hn:pK [] r.opts=pK (dk e true seen) (r.opts.drop (k+1)):=by rw[hall,pK,g1,g2];rfl
 refine zs ?_;refine ai.r0 (by rfl) (by simp only[bx,aX,an,aw,bind_some,map_some,↓reduceIte,reduceEqDiff,reduceAdd,reduceMul,reduceLeDiff,reduceLT,ah,ao,aP,KL (l:=seen)];first | done | rfl) ?_;refine zs ?_;refine ai.r0 (by rfl) (by simp only[bx,aX,an,aw,bind_some,map_some,↓reduceIte,reduceEqDiff,reduceAdd,reduceMul,reduceLeDiff,reduceLT,ah,ao,aP,iJ (dX hlt hlen (by decide))];first | done | rfl) ?_;refine⟨r.opts.length-(k+1),_,by omega,(Fg.less uR yS),k+1,dk e true seen,by omega,rfl,hn,rfl⟩
def bp(r:bq):Int:=if iT r=false then 0 else if r.oM=true then (r.opts.length:Int)+1 else r.opts.length
theorem gS(r:bq)(hr:ea r):PC Tryz.prog 32 [.ag (aD r)] (·=aa (bp r)):=by
 refine pB 17 Tryz.func32 ?_;have hlen:=hr.len;refine aE @aD.eq_1 ?_
 (repeat refine ai.seq ?_)
 refine ai.block ?_;refine zC ?_;refine zK (pX r hr) ?_;cases h1:Proofs.iT r
 ·refine zR ?_;refine cE ?_;refine zE ?_;exact zO [.tmp 2] (hq:=by (try simp only[aC,ab]);first | done | (rw[bp,if_pos h1]))
 refine zR ?_;refine gX ?_;cases h2:r.oM
 ·refine gX ?_;refine zE ?_;exact zO [.tmp 2] (hq:=by (try simp only[aC,ab]);first | done | (rw[bp,if_neg (by rw[h1];decide),if_neg (by rw[h2];decide)]))
 ·refine zY ?_;refine zs ?_;refine ai.r0 (by rfl) (gY (bA (r.opts.length:Int) 1 (by omega))) ?_;refine zE ?_;exact zO [.tmp 2] (hq:=by (try simp only[aC,ab]);first | done | (rw[bp,if_neg (by rw[h1];decide),if_pos h2]))
structure bG where
 key:List Nat
 value:List Nat
structure aG where
 name:List Nat
 kind:List Nat
 bD:List Nat
 slot:List Nat
 made:Int
 since:Int
 eu:Bool
 props:List bG
 l1:Int
 l2:Int
 l3:Int
 l4:Int
 l5:Int
 l6:Int
def ar(p:bG):List SV:=[ak p.key,ak p.value]
def ae(p:aG):List SV:=[ak p.name,ak p.kind,ak p.bD,ak p.slot,aa p.made,aa p.since,aA p.eu,an 2 p.props ar,aa p.l1,aa p.l2,aa p.l3,aa p.l4,aa p.l5,aa p.l6]
def aG.zero:aG:=⟨[],[],[],[],0,0,false,[],0,0,0,0,0,0⟩
def j8:List (List Nat)->Bool
 | a::b::r=>gk a b&&j8 (b::r)
 | _=>true
theorem x3:∀{l:List (List Nat)},(∀(i:Nat) a b,l[i]?=some a->l[i+1]?=some b->gk a b=true)->j8 l=true
 | [],_=>rfl
 | [_],_=>rfl
 | a::b::r,h=>by
  rw[j8,h 0 a b rfl rfl,Bool.true_and];exact x3 λi x y h1 h2=>h (i+1) x y h1 h2
theorem Ci:∀{l:List (List Nat)} {i:Nat} {a b:List Nat},l[i]?=some a->l[i+1]?=some b->gk a b=false->j8 l=false
 | [],i,_,_,h,_,_=>by simp at h
 | [_],i,_,_,_,h,_=>by simp at h
 | x::y::r,0,a,b,h1,h2,h3=>by cases h1;cases h2;rw[j8,h3];rfl
 | x::y::r,i+1,a,b,h1,h2,h3=>by
  rw[j8,Ci (l:=y::r) (i:=i) h1 h2 h3,Bool.and_false]
theorem BW{α β:Type}{f:α->β}{l:List α}{i:Nat}{b:β}(h:(l.map f)[i]?=some b):∃a,l[i]?=some a/\f a=b:=by
 rw[getElem?_map] at h;obtain⟨a,h1,h2⟩:=au h;exact⟨a,h1,h2⟩
theorem tl(s:List Nat):PC Tryz.prog 156 [.ag (ak s::List.replicate 1 .any)] (·=ak s):=by
 refine pB 5 Tryz.func156 ?_;refine aE oU ?_;refine zV ?_;refine zE ?_;exact tH.of (rs:=[.tmp 2]) rfl rfl zl (Wk.refl rfl) zq
theorem CX(l:List bG)(hlen:l.length<=1000000):PC Tryz.prog 155 [an 2 l ar,.fn 156 [] []] (·=aA (j8 (l.map bG.key))):=by
 refine pB 26 Tryz.func155 ?_;refine kQ ?_
 (repeat refine ai.seq ?_)
 refine ai.block (ai.loop (λm st=>∃k:Nat,1<=k/\m=l.length-k/\(∀(i:Nat) a b,i+1<k->l[i]?=some a->l[i+1]?=some b->gk a.key b.key=true)/\st=⟨[(0,an 2 l ar),(1,.fn 156 [] []),(5,aa k)],26,[],[]⟩) (l.length-1) zH ⟨1,by omega,rfl,λi a b h=>absurd h (by omega),rfl⟩ (by rintro m st ⟨k,_,_,_,rfl⟩;rfl) ?_);rintro m st ⟨k,hk,rfl,hall,rfl⟩;refine zV ?_;by_cases hlt:k<l.length;rotate_left
 ·rw[show decide ((k:Int)<(l.length:Int))=false by simp only[decide_eq_false_iff_not];omega];refine zN ?_;refine ai.exit ?_;refine zV ?_
  refine zE ?_;exact zO [.tmp 4] (hq:=by (try simp only[aC,ab]);first | done | (rw[x3 λi a b h1 h2=>by
   obtain⟨x,hx,rfl⟩:=BW h1;obtain⟨y,hy,rfl⟩:=BW h2
   exact hall i x y (by have:=bl hy;omega) hx hy]))
 rw[show decide ((k:Int)<(l.length:Int))=true by simp only[decide_eq_true_eq];omega];obtain⟨j,rfl⟩:∃j,k=j+1:=⟨k-1,by omega⟩;obtain⟨x,hx⟩:∃x,l[j]?=some x:=⟨l[j],getElem?_eq_getElem (by omega)⟩;obtain⟨y,hy⟩:∃y,l[j+1]?=some y:=⟨l[j+1],getElem?_eq_getElem hlt⟩
 have hj:j<l.length:=by omega
 refine zY ?_
 (repeat refine ai.seq ?_)
 refine ai.block ?_;refine zs ?_;refine oW [0,0,0,4,14,30,63,0,0,0,768,1792,4095,8191] ?_
 (repeat (first | refine SD.r (by rfl) rfl (by rfl) (by rfl) (gY (n5 (bS (((j+1:Nat):Int)) 1 (by omega)) (show((j+1:Nat):Int)-1=(j:Int) from by omega) hj (aH (e:=2) (enc:=ar) (λ_=>rfl) hx) @ar.eq_1)) ?_ | refine SD.s (by rfl) rfl (by rfl) (by rfl) ?_ | fail))
 refine SD.k (by rfl) rfl rfl (by rfl) rfl rfl zc (tl x.key) (.cons (.ag (.cons (.a _) (.cons (.any _) .nil))) .nil) rfl ?_;refine nL (n3 hlt (aH (e:=2) (enc:=ar) (λ_=>rfl) hy) @ar.eq_1) ?_;refine SD.k (by rfl) rfl rfl (by rfl) rfl rfl zc (tl y.key) (.cons (.ag (.cons (.a _) (.cons (.any _) .nil))) .nil) rfl ?_;refine nL @o6 ?_;refine zM ?_;cases g:gk x.key y.key
 ·refine cE ?_;refine zE ?_;exact zO [.tmp 4] (hq:=by (try simp only[aC,ab]);first | done | (rw[Ci (i:=j) (a:=x.key) (b:=y.key) (by rw[getElem?_map,hx];rfl) (by rw[getElem?_map,hy];rfl) g]))
 ·refine zN ?_;refine zs ?_;refine ai.r0 (by rfl) (gY (bA (((j+1:Nat):Int)) 1 (by omega))) ?_;refine⟨l.length-(j+1+1),_,by omega,zH,j+1+1,by omega,rfl,?_,rfl⟩;intro i a b hi ha hb;by_cases hij:i=j
  ·subst hij;rw[hx] at ha;rw[hy] at hb;cases ha;cases hb;exact g
  ·exact hall i a b (by omega) ha hb
theorem tj(s:List Nat):PC Tryz.prog 117 [.ag (ak s::List.replicate 13 .any)] (·=ak s):=by
 refine pB 5 Tryz.func117 ?_;refine aE oU ?_;refine zV ?_;refine zE ?_;exact tH.of (rs:=[.tmp 2]) rfl rfl zl (Wk.refl rfl) zq
theorem CW(l:List aG)(hlen:l.length<=1000000):PC Tryz.prog 116 [an 14 l ae,.fn 117 [] []] (·=aA (j8 (l.map aG.name))):=by
 refine pB 26 Tryz.func116 ?_;refine kQ ?_
 (repeat refine ai.seq ?_)
 refine ai.block (ai.loop (λm st=>∃k:Nat,1<=k/\m=l.length-k/\(∀(i:Nat) a b,i+1<k->l[i]?=some a->l[i+1]?=some b->gk a.name b.name=true)/\st=⟨[(0,an 14 l ae),(1,.fn 117 [] []),(5,aa k)],26,[],[]⟩) (l.length-1) zH ⟨1,by omega,rfl,λi a b h=>absurd h (by omega),rfl⟩ (by rintro m st ⟨k,_,_,_,rfl⟩;rfl) ?_);rintro m st ⟨k,hk,rfl,hall,rfl⟩;refine zV ?_;by_cases hlt:k<l.length;rotate_left
 ·rw[show decide ((k:Int)<(l.length:Int))=false by simp only[decide_eq_false_iff_not];omega];refine zN ?_;refine ai.exit ?_;refine zV ?_
  refine zE ?_;exact zO [.tmp 4] (hq:=by (try simp only[aC,ab]);first | done | (rw[x3 λi a b h1 h2=>by
   obtain⟨x,hx,rfl⟩:=BW h1;obtain⟨y,hy,rfl⟩:=BW h2
   exact hall i x y (by have:=bl hy;omega) hx hy]))
 rw[show decide ((k:Int)<(l.length:Int))=true by simp only[decide_eq_true_eq];omega];obtain⟨j,rfl⟩:∃j,k=j+1:=⟨k-1,by omega⟩;obtain⟨x,hx⟩:∃x,l[j]?=some x:=⟨l[j],getElem?_eq_getElem (by omega)⟩;obtain⟨y,hy⟩:∃y,l[j+1]?=some y:=⟨l[j+1],getElem?_eq_getElem hlt⟩
 have hj:j<l.length:=by omega
 refine zY ?_
 (repeat refine ai.seq ?_)
 refine ai.block ?_;refine zs ?_;refine oW [0,0,0,4,14,30,63,0,0,0,768,1792,4095,8191] ?_
 (repeat (first | refine SD.r (by rfl) rfl (by rfl) (by rfl) (gY (n5 (bS (((j+1:Nat):Int)) 1 (by omega)) (show((j+1:Nat):Int)-1=(j:Int) from by omega) hj (aH (e:=14) (enc:=ae) (λ_=>rfl) hx) @ae.eq_1)) ?_ | refine SD.s (by rfl) rfl (by rfl) (by rfl) ?_ | fail))
 refine SD.k (by rfl) rfl rfl (by rfl) rfl rfl zc (tj x.name) (.cons (.ag (.cons (.a _) (.cons (.any _) (.cons (.any _) (.cons (.any _) (.cons (.any _) (.cons (.any _) (.cons (.any _) (.cons (.any _) (.cons (.any _) (.cons (.any _) (.cons (.any _) (.cons (.any _) (.cons (.any _) (.cons (.any _) .nil))))))))))))))) .nil) rfl ?_;refine nL (n3 hlt (aH (e:=14) (enc:=ae) (λ_=>rfl) hy) @ae.eq_1) ?_;refine SD.k (by rfl) rfl rfl (by rfl) rfl rfl zc (tj y.name) (.cons (.ag (.cons (.a _) (.cons (.any _) (.cons (.any _) (.cons (.any _) (.cons (.any _) (.cons (.any _) (.cons (.any _) (.cons (.any _) (.cons (.any _) (.cons (.any _) (.cons (.any _) (.cons (.any _) (.cons (.any _) (.cons (.any _) .nil))))))))))))))) .nil) rfl ?_;refine nL @o6 ?_;refine zM ?_;cases g:gk x.name y.name
 ·refine cE ?_;refine zE ?_;exact zO [.tmp 4] (hq:=by (try simp only[aC,ab]);first | done | (rw[Ci (i:=j) (a:=x.name) (b:=y.name) (by rw[getElem?_map,hx];rfl) (by rw[getElem?_map,hy];rfl) g]))
 ·refine zN ?_;refine zs ?_;refine ai.r0 (by rfl) (gY (bA (((j+1:Nat):Int)) 1 (by omega))) ?_;refine⟨l.length-(j+1+1),_,by omega,zH,j+1+1,by omega,rfl,?_,rfl⟩;intro i a b hi ha hb;by_cases hij:i=j
  ·subst hij;rw[hx] at ha;rw[hy] at hb;cases ha;cases hb;exact g
  ·exact hall i a b (by omega) ha hb
theorem FJ{S:List SO}{o:Nat}{l:List (List Nat×Int)}(s:List Nat)(ok:Bool)(hS:S[o]?=some (bO AV.str aa l)):eN Tryz.prog S 86 (.map o) (.a (.str s)) ok=some (cond ok (.bI [aa (getM 0 s l),aA (dh s l)]) (aa (getM 0 s l))):=
 AU (uv:=aa) (u0:=0) (k:=s) (kt:=9) (et:=3) (z:=.int .i64 0) (by simp only[aw]) fa (by simp only[aw]) rfl hS rfl ok
theorem HS{S:List SO}{o:Nat}{l:List (List Nat×Int)}(s:List Nat)(u:Int)(hS:S[o]?=some (bO AV.str aa l)):e7 Tryz.prog S 86 (.map o) (.a (.str s)) (.a (.int .i64 u))=some (S.set o (bO AV.str aa (dk s u l))):=
 EW (uv:=aa) (kt:=9) (et:=3) (by simp only[aw]) fa hS rfl u
theorem vr{S:List SO}{l:List (List Nat×Int)}(s:List Nat)(ok:Bool):eN Tryz.prog S 86 (qG AV.str aa l) (.a (.str s)) ok=some (cond ok (.bI [aa (getM 0 s l),aA (dh s l)]) (aa (getM 0 s l))):=
 LY (uv:=aa) (u0:=0) (k:=s) (kt:=9) (et:=3) (z:=.int .i64 0) (by simp only[aw]) fa (by simp only[aw]) rfl rfl ok
def qL:Nat->List (List Nat×Int)->List aG->List (List Nat×Int)
 | _,m,[]=>m
 | i,m,p::ps=>qL (i+1) (if dh p.name m=true then m else dk p.name i m) ps
def Gg(ps:List aG):SV:=.ag [an 14 ps ae,qG AV.str aa (qL 0 [] ps)]
set_option maxHeartbeats 1000000 in
theorem uO(ps:List aG)(hlen:ps.length<=1000000):PC Tryz.prog 77 [.ag [an 14 ps ae]] (·=Gg ps):=by
 refine pB 37 Tryz.func77 ?_;refine kQ ?_;refine zV ?_;refine zs ?_;refine ai.block (ai.loop (λm st=>∃k:Nat,∃m0:List (List Nat×Int),k<=ps.length/\m=ps.length-k/\(qL 0 [] ps=qL k m0 (ps.drop k))/\st=⟨[(2,.ptr 1 0),(3,.ptr 3 0),(13,an 14 ps ae),(14,aa ps.length),(15,aa k)],37,[.gone,.cells [.a (.slice none 0 0 (some 0)),.a (.map none)],bO AV.str aa m0,.cells [an 14 ps ae,.map 2]],[]⟩) ps.length (Fg.less uR yS) ⟨0,[],Nat.zero_le _,rfl,(by rfl),rfl⟩ (by rintro m st ⟨k,_,_,_,_,rfl⟩;rfl) ?_);rintro m st ⟨k,m0,hk,rfl,hall,rfl⟩;refine zs ?_;refine ai.r0 (by rfl) zl ?_;by_cases hlt:k<ps.length;rotate_left;obtain rfl:k=ps.length:=(by omega);rw[show decide ((ps.length:Int)<(ps.length:Int))=false by simp];rotate_left;rw[show decide ((k:Int)<(ps.length:Int))=true by simp only[decide_eq_true_eq];omega];obtain⟨x,hx⟩:∃zz,ps[k]?=some zz:=⟨ps[k],getElem?_eq_getElem hlt⟩;rotate_left
 ·refine zN ?_;refine ai.exit ?_;refine zV ?_;refine zE ?_;exact zO [.cell 2 152] (r:=.ag [an 14 ps ae,qG AV.str aa m0]) (hw:=by exact Wk.ag (.cons (.sl _ _ _) (.cons (tC (λ_=>rfl) rfl) .nil))) (hq:=by (try simp only[aC,ab]);first | done | (rw[Gg,hall,List.drop_length];rfl))
 rw[eZ hx] at hall;refine zY ?_
 (repeat refine ai.seq ?_)
 refine ai.block ?_;refine aE (n4 hlt (aH (e:=14) (enc:=ae) (λ_=>rfl) hx) @ae.eq_1 @Pg) ?_;refine zs ?_;refine ai.r0 (by rfl) (by simp only[bx,aX,an,aw,bind_some,map_some,↓reduceIte,reduceEqDiff,reduceAdd,reduceMul,reduceLeDiff,reduceLT,ah,ao,aP,FJ (l:=m0)];first | done | rfl) ?_;refine zV ?_;cases h1:dh x.name m0
 ·refine zY ?_;refine zs ?_;refine ai.r0 (by rfl) (by simp only[bx,aX,an,aw,bind_some,map_some,↓reduceIte,reduceEqDiff,reduceAdd,reduceMul,reduceLeDiff,reduceLT,ah,ao,aP,HS (l:=m0)];first | done | rfl) ?_;refine zs ?_;refine ai.r0 (by rfl) (gY (nh (dX hlt hlen (by decide)))) ?_;refine⟨ps.length-(k+1),_,by omega,(Fg.less uR yS),k+1,dk x.name (k:Int) m0,by omega,rfl,show qL 0 [] ps=qL (k+1) (dk x.name (k:Int) m0) (ps.drop (k+1)) by rw[hall,qL,h1];rfl,rfl⟩
 ·refine zN ?_;refine zs ?_;refine ai.r0 (by rfl) (gY (nh (dX hlt hlen (by decide)))) ?_;refine⟨ps.length-(k+1),_,by omega,(Fg.less uR yS),k+1,m0,by omega,rfl,show qL 0 [] ps=qL (k+1) m0 (ps.drop (k+1)) by rw[hall,qL,if_pos h1],rfl⟩
def pz(ps:List aG)(m:List (List Nat×Int))(name:List Nat):Option aG:=if dh name m=true then ps[(getM 0 name m).toNat]? else none
def PJ(ps:List aG)(m:List (List Nat×Int)):Prop:=∀name,dh name m=true->∃k:Nat,getM 0 name m=(k:Int)/\k<ps.length
theorem oG(ps:List aG)(m:List (List Nat×Int))(name:List Nat)(hm:PJ ps m):PC Tryz.prog 82 [.ag [an 14 ps ae,qG AV.str aa m],ak name] (·=nG ae aG.zero (pz ps m name)):=by
 refine pB 23 Tryz.func82 ?_;refine zV ?_;refine aE @vr ?_;refine zV ?_;cases h1:dh name m
 ·refine cE ?_;refine zE ?_;exact zO [.cell 4 116,.tmp 5] (r:=.bI [.ag [ak [],ak [],ak [],ak [],aa 0,aa 0,aA false,.sl 0 2 [],aa 0,aa 0,aa 0,aa 0,aa 0,aa 0],aA false]) (hw:=zv) (hq:=by (try simp only[aC,ab]);first | done | (rw[pz,h1];rfl))
 obtain⟨k,hk,hlt⟩:=hm name h1;obtain⟨x,hx⟩:∃x,ps[k]?=some x:=⟨ps[k],getElem?_eq_getElem hlt⟩;refine zN ?_;refine aE (n4 hk hlt (aH (e:=14) (enc:=ae) (λ_=>rfl) hx) @ae.eq_1) ?_;refine zE ?_;exact zO [.cell 4 116,.tmp 5] (hq:=by (try simp only[aC,ab]);first | done | (rw[pz,if_pos h1,hk,Int.toNat_natCast,hx];rfl))
theorem Gv:∀{ps l:List aG} {i:Nat} {m:List (List Nat×Int)},i+ps.length=l.length->PJ l m->PJ l (qL i m ps)
 | [],_,_,_,_,h=>h
 | p::ps,l,i,m,hl,h=>by
  rw[qL];refine Gv (by rw[List.length_cons] at hl;omega) ?_;split
  ·exact h
  ·intro name hn;by_cases e:name=p.name
   ·subst e;exact⟨i,by rw[pw,if_pos rfl],by rw[List.length_cons] at hl;omega⟩
   ·rw[xw,decide_eq_false e,Bool.false_or] at hn;rw[pw,if_neg e];exact h name hn
end Go.Proofs
