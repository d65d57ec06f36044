/- A part of the texts of this claim: every theorem says what it proves, with its conditions. -/
import Derived.Test.YtnaiockballhaaaGreatA42
import Derived.Test.YtnaiockballhaaaGreatA23
set_option linter.unusedSimpArgs false
set_option linter.unusedVariables false
set_option linter.unusedSectionVars false
open List (all_eq_true getElem?_eq_getElem mem_of_getElem? take_length range)
open Bool (and_eq_true eq_false_iff not_eq_true')
open Nat (zero_le)
namespace Go.Proofs
open Go.Ev
set_option maxRecDepth 100000
def GR(a b:Int):Bool:=decide (0<=a)&&(decide (a<=b)&&decide (b<=1000000))
theorem uN(a b:Int):PC Tryz.prog 208 [.ag [aa a,aa b]] (·=aA (Proofs.GR a b)):=by
 refine pB 18 Tryz.func208 ?_;unfold Proofs.GR;refine zV ?_;cases g1:decide (0<=a)
 ·refine aE g1 ?_;refine zE ?_;exact zO [.tmp 2]
 cases g2:decide (a<=b)
 ·refine aE (n2 g1 g2) ?_;refine zE ?_;exact zO [.tmp 2]
 refine aE (n2 g1 g2) ?_;refine zE ?_;exact zO [.tmp 2]
def Ju(u:iu):Bool:=Proofs.GR u.u1 u.u2&&(Proofs.GR u.u3 u.u4&&Proofs.GR u.u5 u.u6)
theorem H4(u:iu):PC Tryz.prog 198 [.ag (dJ u)] (·=aA (Proofs.Ju u)):=by
 refine pB 16 Tryz.func198 ?_;unfold Proofs.Ju;refine aE @dJ.eq_1 ?_;refine zC ?_;refine zK (uN u.u1 u.u2) ?_;cases g1:Proofs.GR u.u1 u.u2
 ·refine zR ?_;refine zE ?_;exact zO [.tmp 2]
 refine zQ ?_;refine zK (uN u.u3 u.u4) ?_;cases g2:Proofs.GR u.u3 u.u4
 ·refine zR ?_;refine zE ?_;exact zO [.tmp 2]
 refine zQ ?_;refine zK (uN u.u5 u.u6) ?_;refine zR ?_;refine zE ?_;exact zO [.tmp 2]
theorem rB(x y:bB):cM Tryz.prog .eql 76 (.agg [.int .i64 x.op,.int .i64 x.day,.str x.part,.str x.kind,.str x.bD,.str x.slot,.str x.key,.str x.value,.int .i64 x.u1,.int .i64 x.u2,.int .i64 x.u3,.int .i64 x.u4,.int .i64 x.u5,.int .i64 x.u6]) (.agg [.int .i64 y.op,.int .i64 y.day,.str y.part,.str y.kind,.str y.bD,.str y.slot,.str y.key,.str y.value,.int .i64 y.u1,.int .i64 y.u2,.int .i64 y.u3,.int .i64 y.u4,.int .i64 y.u5,.int .i64 y.u6])=some (.bool (decide (x=y))):=Bj x y
def ib(e:bB):bB:=
 if e.op=1 then ⟨e.op,e.day,e.part,e.kind,[],[],[],[],0,0,0,0,0,0⟩
 else if e.op=2 then ⟨e.op,e.day,e.part,[],e.bD,e.slot,[],[],0,0,0,0,0,0⟩
 else if e.op=4 then ⟨e.op,e.day,e.part,[],[],[],[],[],e.u1,e.u2,e.u3,e.u4,e.u5,e.u6⟩
 else if e.op=6 then ⟨e.op,e.day,e.part,[],[],[],e.key,e.value,0,0,0,0,0,0⟩
 else ⟨e.op,e.day,e.part,[],[],[],[],[],0,0,0,0,0,0⟩
def ju(e:bB):Bool:=
 if e.op=1 then cO e.kind
 else if e.op=2 then cO e.bD&&(cO e.slot&&!(decide (e.bD=e.part)))
 else if e.op=4 then Proofs.Ju (mV e)
 else if e.op=6 then cO e.key&&(decide (1<=(e.value.length:Int))&&decide ((e.value.length:Int)<=200))
 else true
def jG(e:bB):Bool:=!(decide (e.op<1))&&(!(decide (7<e.op))&&(!(decide (e.day<0))&&(!(decide (40000<e.day))&&(cO e.part&&(ju e&&decide (ib e=e))))))
set_option maxHeartbeats 2000000 in
theorem C7(e:bB)(he:oZ e):PC Tryz.prog 180 [.ag (aF e)] (·=aA (Proofs.jG e)):=by
 refine pB 106 Tryz.func180 ?_;rw[dg];refine zV ?_;cases h1:decide (e.op<1);rotate_left
 ·refine aE h1 ?_;refine cE ?_;refine zE ?_;exact zO [.tmp 2] (hq:=by (try simp only[aC,ab]);first | done | (rw[Proofs.jG,h1];rfl))
 cases h2:decide (7<e.op);rotate_left
 ·refine aE (n2 h1 h2) ?_;refine cE ?_;refine zE ?_;exact zO [.tmp 2] (hq:=by (try simp only[aC,ab]);first | done | (rw[Proofs.jG,h1,h2];rfl))
 cases h3:decide (e.day<0);rotate_left
 ·refine aE (n3 h1 h2 h3) ?_;refine cE ?_;refine zE ?_;exact zO [.tmp 2] (hq:=by (try simp only[aC,ab]);first | done | (rw[Proofs.jG,h1,h2,h3];rfl))
 cases h4:decide (40000<e.day);rotate_left
 ·refine aE (n4 h1 h2 h3 h4) ?_;refine cE ?_;refine zE ?_;exact zO [.tmp 2] (hq:=by (try simp only[aC,ab]);first | done | (rw[Proofs.jG,h1,h2,h3,h4];rfl))
 refine gl (n4 h1 h2 h3 h4) ?_;refine zK (jF e.part he.part.1) ?_;cases h5:cO e.part
 ·refine zR ?_;refine cE ?_;refine zE ?_;exact zO [.tmp 2] (hq:=by (try simp only[aC,ab]);first | done | (rw[Proofs.jG,h1,h2,h3,h4,h5];rfl))
 refine zR ?_;refine zN ?_
 have hv:Proofs.jG e=(ju e&&decide (ib e=e)):=by rw[Proofs.jG,h1,h2,h3,h4,h5];rfl
 clear h1 h2 h3 h4 h5;refine kQ ?_;refine zV ?_
 (repeat refine ai.seq ?_)
 refine ai.mono (Q:=λex st=>ex=.normal/\Fg st ⟨[(1,.ptr 0 0),(3,.ptr 1 0),(4,aA (ju e))],106,[.cells (aF e),.cells (aF (ib e))],[]⟩) ?_ ?_;rotate_left
 ·rintro ex st ⟨rfl,hf⟩;change ai _ _ _ _ _;refine ai.fg hf ?_;rw[hv];cases hg:ju e
  ·refine zV ?_;refine zE ?_;exact zO [.tmp 2]
  ·refine aE (n2 @aF.eq_1 (rB (ib e) e)) ?_;refine zE ?_;exact zO [.tmp 2]
 have hrest:∀a1 a2 a3 a4 a5 a6 a7 a8 a9 a10 a11 a12 a13 a14,ib e=(⟨a1,a2,a3,a4,a5,a6,a7,a8,a9,a10,a11,a12,a13,a14⟩:bB)->aF (ib e)=[aa a1,aa a2,ak a3,ak a4,ak a5,ak a6,ak a7,ak a8,aa a9,aa a10,aa a11,aa a12,aa a13,aa a14]:=by
  intros;simp only[*,aF]
 refine ai.block ?_;refine zV ?_;cases k1:decide (e.op=1);rotate_left
 ·have k1':=of_decide_eq_true k1;have hr:=hrest _ _ _ _ _ _ _ _ _ _ _ _ _ _ (show ib e=_ by unfold ib;rw[if_pos k1'])
  have hgd:ju e=cO e.kind:=by unfold ju;rw[if_pos k1']
  refine cE ?_;refine zC ?_;refine zK (jF e.kind he.kind.1) ?_;refine zR ?_;refine⟨rfl,?_⟩;rw[hr,hgd,dg];exact zH
 have n1:=of_decide_eq_false k1;refine gX ?_;cases k2:decide (e.op=2);rotate_left
 ·have k2':=of_decide_eq_true k2;have hr:=hrest _ _ _ _ _ _ _ _ _ _ _ _ _ _ (show ib e=_ by unfold ib;rw[if_neg n1,if_pos k2'])
  have hgd:ju e=(cO e.bD&&(cO e.slot&&!(decide (e.bD=e.part)))):=by unfold ju;rw[if_neg n1,if_pos k2']
  rw[hgd,hr,dg];refine cE ?_;refine ki ?_;refine zK (jF e.bD he.bD.1) ?_;cases j1:cO e.bD
  ·refine zR ?_;refine⟨rfl,?_⟩;exact zH
  refine zQ ?_;refine zK (jF e.slot he.slot.1) ?_;cases j2:cO e.slot
  ·refine zR ?_;refine⟨rfl,?_⟩;exact zH
  refine zR ?_;refine⟨rfl,?_⟩;exact zH
 have n2:=of_decide_eq_false k2;refine gX ?_;cases k4:decide (e.op=4);rotate_left
 ·have k4':=of_decide_eq_true k4;have hr:=hrest _ _ _ _ _ _ _ _ _ _ _ _ _ _ (show ib e=_ by unfold ib;rw[if_neg n1,if_neg n2,if_pos k4'])
  have hgd:ju e=Proofs.Ju (mV e):=by unfold ju;rw[if_neg n1,if_neg n2,if_pos k4']
  rw[hgd,hr,dg];refine cE ?_;refine zC ?_;refine zK (H4 (mV e)) ?_;refine zR ?_;refine⟨rfl,?_⟩;exact zH
 have n4:=of_decide_eq_false k4;refine gX ?_;cases k6:decide (e.op=6);rotate_left
 ·have k6':=of_decide_eq_true k6;have hr:=hrest _ _ _ _ _ _ _ _ _ _ _ _ _ _ (show ib e=_ by unfold ib;rw[if_neg n1,if_neg n2,if_neg n4,if_pos k6'])
  have hgd:ju e=(cO e.key&&(decide (1<=(e.value.length:Int))&&decide ((e.value.length:Int)<=200))):=by unfold ju;rw[if_neg n1,if_neg n2,if_neg n4,if_pos k6']
  rw[hgd,hr,dg];refine cE ?_;refine ki ?_;refine zK (jF e.key he.key.1) ?_;cases j1:cO e.key
  ·refine zR ?_;refine⟨rfl,?_⟩;exact zH
  cases j2:decide (1<=(e.value.length:Int))
  ·refine cS j2 ?_;refine⟨rfl,?_⟩;exact zH
  refine cS j2 ?_;refine⟨rfl,?_⟩;exact zH
 have n6:=of_decide_eq_false k6;have hr:=hrest _ _ _ _ _ _ _ _ _ _ _ _ _ _ (show ib e=_ by unfold ib;rw[if_neg n1,if_neg n2,if_neg n4,if_neg n6])
 have hgd:ju e=true:=by unfold ju;rw[if_neg n1,if_neg n2,if_neg n4,if_neg n6]
 rw[hgd,hr,dg];refine zN ?_
 (try (refine ai.skip ?_))
 refine⟨rfl,?_⟩;exact zH
def EA(l:List bB)(i:Nat):Bool:=match l[i]? with
 | some y=>Proofs.jG y&&(l.take i).all λx=>!(decide (x=y))
 | none=>true
def lB(r:bq):Bool:=!(decide ((r.opts.length:Int)<1))&&(!(decide (4<(r.opts.length:Int)))&&(range r.opts.length).all (EA r.opts))
set_option maxHeartbeats 1000000 in
theorem C8(r:bq)(hr:ea r):PC Tryz.prog 136 [.ag (aD r)] (·=aA (Proofs.lB r)):=by
 refine pB 45 Tryz.func136 ?_;refine aE @aD.eq_1 ?_;refine ai.fg (Fg.freeze (f':=[(1,.ip [an 14 r.opts aF,aA r.oM])]) 0 rfl (λh=>by cases h) (p6 @an.eq_1)) ?_;refine ai.fg (st':=⟨[(1,.ip [an 14 r.opts aF,aA r.oM])],45,[],[]⟩) zH ?_
 (try change ai _ _ _ _ _)
 cases g1:decide ((r.opts.length:Int)<1);rotate_left
 ·refine aE g1 ?_;refine cE ?_;refine zE ?_;exact zO [.tmp 2] (hq:=by (try simp only[aC,ab]);first | done | (rw[Proofs.lB,g1];rfl))
 cases g2:decide (4<(r.opts.length:Int));rotate_left
 ·refine aE (n2 g1 g2) ?_;refine cE ?_;refine zE ?_;exact zO [.tmp 2] (hq:=by (try simp only[aC,ab]);first | done | (rw[Proofs.lB,g1,g2];rfl))
 have hN:Proofs.lB r=(range r.opts.length).all (EA r.opts):=by rw[Proofs.lB,g1,g2];rfl
 have hlen:=hr.len;refine aE (n2 g1 g2) ?_;refine gX ?_;refine zs ?_;refine zL r.opts (λk=>(range k).all (EA r.opts)=true) (λk=>[(1,.ip [an 14 r.opts aF,aA r.oM]),(3,aa k)]) (λk=>[]) zH zp ?_;intro k hk hall;by_cases hlt:k<r.opts.length;rotate_left
 ·obtain rfl:k=r.opts.length:=by omega
  refine aE (show decide ((r.opts.length:Int)<(r.opts.length:Int))=false by simp) ?_;refine zN ?_;refine ai.exit ?_;refine zV ?_;refine zE ?_;exact zO [.tmp 2] (hq:=by (try simp only[aC,ab]);first | done | (rw[hN,hall]))
 have hd:=show decide ((k:Int)<(r.opts.length:Int))=true by simp only[decide_eq_true_eq];omega
 obtain⟨y,hx⟩:∃x,r.opts[k]?=some x:=⟨r.opts[k],getElem?_eq_getElem hlt⟩
 have hoy:EA r.opts k=(Proofs.jG y&&(r.opts.take k).all λx=>!(decide (x=y))):=by unfold EA;rw[hx]
 have hbad:EA r.opts k=false->Proofs.lB r=false:=λh=>by
  rw[hN];refine eq_false_iff.2 λh2=>?_;have:=all_eq_true.1 h2 k (List.mem_range.2 hlt);rw[h] at this;cases this
 refine aE hd ?_;refine zY ?_
 (repeat refine ai.seq ?_)
 refine ai.block ?_
 (repeat refine ai.seq ?_)
 refine gl (n2 hlt (aH (e:=14) (enc:=aF) (λ_=>rfl) hx)) ?_;refine zK (C7 y (hr.ev y (mem_of_getElem? hx))) ?_;cases hs:Proofs.jG y
 ·refine zR ?_;refine cE ?_;refine zE ?_;exact zO [.tmp 2] (hq:=by (try simp only[aC,ab]);first | done | (rw[hbad (by rw[hoy,hs];rfl)]))
 rw[hs,Bool.true_and] at hoy;refine zR ?_;refine gX ?_
 have htl:(r.opts.take k).length=k:=by rw[List.length_take];omega
 refine zs ?_;refine zL (r.opts.take k) (λk2=>(((r.opts.take k).take k2).all λx=>!(decide (x=y)))=true) (λk2=>[(1,.ip [an 14 r.opts aF,aA r.oM]),(3,aa k),(4,aa k2)]) (λk2=>[]) zH zp ?_;intro k2 hk2 hall2;by_cases hlt2:k2<(r.opts.take k).length;rotate_left
 ·have hk2:k2=k:=by omega
  refine aE (show decide ((k2:Int)<(k:Int))=false by simp only[decide_eq_false_iff_not];omega) ?_;refine zN ?_;refine ai.exit ?_;have h1:=nI (n:=(r.opts.take k).length) hall2 (by omega);rw[take_length] at h1
  have hnx:(range (k+1)).all (EA r.opts)=true:=by
   rw[List.range_succ,List.all_append,hall,Bool.true_and];show(EA r.opts k&&true)=true;rw[hoy,h1];rfl
  refine aE (zi hlt hlen) ?_;refine zX hlt zH hnx
 obtain⟨x,hx2⟩:∃x,(r.opts.take k)[k2]?=some x:=⟨(r.opts.take k)[k2],getElem?_eq_getElem hlt2⟩
 have hx3:r.opts[k2]?=some x:=by
  rw[List.getElem?_take] at hx2;split at hx2
  ·exact hx2
  ·cases hx2
 have hlt3:k2<r.opts.length:=by omega
 have hlen2:(r.opts.take k).length<=1000000:=by omega
 refine aE (show decide ((k2:Int)<(k:Int))=true by simp only[decide_eq_true_eq];omega) ?_;refine zY ?_
 (repeat refine ai.seq ?_)
 refine ai.block ?_;cases he:decide (x=y)
 ·refine zs ?_;refine oW [0,1,0,7,15,0,32,0,224,480,1023] ?_;refine nL (n7 hlt hlt3 (aH (e:=14) (enc:=aF) (λ_=>rfl) hx) (aH (e:=14) (enc:=aF) (λ_=>rfl) hx3) @aF.eq_1 (rB x y) he) ?_;refine zM ?_;refine zN ?_;refine aE (zi hlt2 hlen2) ?_;refine zX hlt2 zH (kC hx2 hall2 (by rw[he];rfl))
 ·refine zs ?_;refine oW [0,1,0,7,15,0,32,0,224,480,1023] ?_;refine nL (n7 hlt hlt3 (aH (e:=14) (enc:=aF) (λ_=>rfl) hx) (aH (e:=14) (enc:=aF) (λ_=>rfl) hx3) @aF.eq_1 (rB x y) he) ?_;refine zM ?_;refine cE ?_;refine zE ?_;exact zO [.tmp 2] (hq:=by (try simp only[aC,ab]);first | done | (rw[hbad (by rw[hoy];refine eq_false_iff.2 λh=>?_;have:=all_eq_true.1 h x (mem_of_getElem? hx2);rw[he] at this;cases this)]))
def dV(r:bq):Int:=if Proofs.lB r=false then 0 else if r.oM=true then (r.opts.length:Int)+1 else r.opts.length
theorem BM(r:bq):dV r<=5/\0<=dV r:=by
 unfold dV;split
 ·omega
 ·rename_i h;have h4:¬4<(r.opts.length:Int):=λhg=>h (by rw[Proofs.lB,decide_eq_true hg];cases decide ((r.opts.length:Int)<1)<;>rfl);split<;>omega
theorem yu(r:bq)(hr:ea r):PC Tryz.prog 97 [.ag (aD r)] (·=aa (Proofs.dV r)):=by
 refine pB 15 Tryz.func97 ?_;have hlen:=hr.len;refine aE @aD.eq_1 ?_;refine zC ?_;refine zK (C8 r hr) ?_;cases h:Proofs.lB r
 ·refine zR ?_;refine cE ?_;refine zE ?_;exact zO [.tmp 2] (hq:=by (try simp only[aC,ab]);first | done | (rw[Proofs.dV,if_pos h]))
 have hN:Proofs.dV r=if r.oM=true then (r.opts.length:Int)+1 else r.opts.length:=by rw[Proofs.dV,if_neg (by rw[h];decide)]
 refine zR ?_;refine zN ?_;cases hd:r.oM
 ·rw[hd] at hN;refine Gl ?_;refine zV ?_;refine zE ?_;exact zO [.tmp 2] (hq:=by (try simp only[aC,ab]);first | done | (rw[hN];rfl))
 ·rw[hd] at hN;refine wy ?_;refine zs ?_;refine ai.r0 (by rfl) (gY (bA (r.opts.length:Int) 1 (by omega))) ?_;refine zE ?_;exact tH.of (rs:=[.tmp 2]) rfl rfl zl (Wk.refl rfl) (by (try simp only[aC,ab]);first | done | (rw[hN];rfl))
def rG(most:Int):List bq->Int->Int
 | [],n=>n
 | r::l,n=>if n<=most then rG most l (n*dQ 1 (dV r)) else n
theorem F8(l:List bq)(most:Int)(hm:most<=1000)(hl:∀r∈l,ea r)(hlen:l.length<=1000000):PC Tryz.prog 48 [an 2 l aD,aa most] (·=aa (Proofs.rG most l 1)):=by
 refine pB 27 Tryz.func48 ?_;refine kQ ?_;refine zV ?_;refine zs ?_;refine ai.block (ai.loop (λm st=>∃k:Nat,∃n:Int,k<=l.length/\m=l.length-k/\((Proofs.rG most l 1=Proofs.rG most (l.drop k) n/\0<=n/\n<=1000000))/\st=⟨[(0,an 2 l aD),(1,aa most),(5,aa n),(6,aa k)],27,[],[]⟩) l.length (Fg.less uR yS) ⟨0,1,zero_le _,rfl,(by exact⟨rfl,by decide,by decide⟩),rfl⟩ (by rintro m st ⟨k,_,_,_,_,rfl⟩;rfl) ?_);rintro m st ⟨k,n,hk,rfl,hall,rfl⟩;obtain⟨hw,hn0,hn1⟩:=hall;by_cases hlt:k<l.length;rotate_left
 ·refine aE (show decide ((k:Int)<(l.length:Int))=false by simp only[decide_eq_false_iff_not];omega) ?_;refine zN ?_;refine ai.exit ?_;rw[List.drop_of_length_le (by omega),Proofs.rG] at hw;refine zV ?_;refine zE ?_;exact zO [.tmp 4] (hq:=by (try simp only[aC,ab]);first | done | (rw[hw]))
 have hd:=show decide ((k:Int)<(l.length:Int))=true by simp only[decide_eq_true_eq];omega
 obtain⟨x,hx⟩:∃x,l[k]?=some x:=⟨l[k],getElem?_eq_getElem hlt⟩;rw[eZ hx,Proofs.rG] at hw;cases g:decide (n<=most)
 ·rw[if_neg (of_decide_eq_false g)] at hw;refine aE (n2 hd g) ?_;refine zN ?_;refine ai.exit ?_;refine zV ?_;refine zE ?_;exact zO [.tmp 4] (hq:=by (try simp only[aC,ab]);first | done | (rw[hw]))
 rw[if_pos (of_decide_eq_true g)] at hw;have hg:=of_decide_eq_true g;have hc:=BM x
 have hmx:0<=dQ 1 (Proofs.dV x)/\dQ 1 (Proofs.dV x)<=5:=by unfold dQ;split<;>omega
 have hch:=yu x (hl x (mem_of_getElem? hx))
 have hnm:0<=n*dQ 1 (Proofs.dV x)/\n*dQ 1 (Proofs.dV x)<=1000000:=by
  refine⟨Int.mul_nonneg hn0 hmx.1,?_⟩;have h1:=Int.mul_le_mul_of_nonneg_left hmx.2 hn0;omega
 refine aE (n2 hd g) ?_;refine zY ?_
 (repeat refine ai.seq ?_)
 refine ai.block ?_;refine gl (n3 hlt (aH (e:=2) (enc:=aD) (λ_=>rfl) hx) @aD.eq_1) ?_;refine zK hch ?_;refine aM.r0 (by rfl) (gY (n2 @e8 (bM n (dQ 1 (Proofs.dV x)) (by omega)))) ?_;refine zs ?_;refine ai.r0 (by rfl) (by simp only[bx,aX,an,aw,Option.bind_some,Option.map_some,↓reduceIte,Nat.reduceEqDiff,Nat.reduceAdd,Nat.reduceMul,Nat.reduceLeDiff,Nat.reduceLT,ah,ao,aP,iJ (dX hlt hlen (by decide))];first | done | rfl) ?_;refine⟨l.length-(k+1),_,by omega,(Fg.less uR yS),k+1,(n*dQ 1 (Proofs.dV x)),by omega,rfl,⟨hw,hnm.1,hnm.2⟩,rfl⟩
inductive ji:bE->Prop
 | mk {op n:Int} {kids:List bE}:kids.length<=mr->(∀k∈kids,ji k)->ji (.mk op n kids)
set_option maxHeartbeats 1000000 in
theorem tq:∀(d:Nat) (f:bE),SizeOf.sizeOf f<d->ji f->∀most:Int,PC Tryz.prog 95 [.ag (aI f),aa most] (·=aa (fq f most))
 | 0,f,hd,_,_=>absurd hd (Nat.not_lt_zero _)
 | d+1,.mk op n kids,hd,hf,most=>by
  cases hf with
  | mk hlen hks=>
  have hkd:∀k∈kids,SizeOf.sizeOf k<d:=λk hk=>by
   have h1:=List.sizeOf_lt_of_mem hk
   have h2:SizeOf.sizeOf (bE.mk op n kids)=1+SizeOf.sizeOf op+SizeOf.sizeOf n+SizeOf.sizeOf kids:=by simp
   omega
  rw[dr,fq];refine pB 31 Tryz.func95 ?_;refine zV ?_;refine ai.fg (Fg.freeze (f':=[(1,aa most),(2,.ip [aa op,aa n,an 3 kids aI])]) 0 rfl (λh=>by cases h) (p6 @an.eq_1)) ?_;refine ai.fg (st':=⟨[(1,aa most),(2,.ip [aa op,aa n,an 3 kids aI])],31,[],[]⟩) zH ?_
  (try change ai _ _ _ _ _)
  refine kQ ?_;refine zs ?_;refine ai.block (ai.loop (λm st=>∃k:Nat,∃acc:Int,k<=kids.length/\m=kids.length-k/\(gE kids most 1=gE (kids.drop k) most acc)/\st=⟨[(1,aa most),(2,.ip [aa op,aa n,an 3 kids aI]),(5,aa acc),(6,aa k)],31,[],[]⟩) kids.length (Fg.less uR yS) ⟨0,1,Nat.zero_le _,rfl,(by rfl),rfl⟩ (by rintro m st ⟨k,_,_,_,_,rfl⟩;rfl) ?_);rintro m st ⟨k,acc,hk,rfl,hall,rfl⟩;by_cases hlt:k<kids.length;rotate_left
  ·refine aE (show decide ((k:Int)<(kids.length:Int))=false by simp only[decide_eq_false_iff_not];omega) ?_;refine zN ?_;refine ai.exit ?_;rw[List.drop_of_length_le (by omega),gE] at hall;refine zV ?_;refine zE ?_;exact zO [.tmp 4] (hq:=by (try simp only[aC,ab]);first | done | (rw[hall]))
  have hd:=show decide ((k:Int)<(kids.length:Int))=true by simp only[decide_eq_true_eq];omega
  obtain⟨x,hx⟩:∃x,kids[k]?=some x:=⟨kids[k],List.getElem?_eq_getElem hlt⟩;rw[eZ hx,gE] at hall;have hxm:=List.mem_of_getElem? hx;have ih:=tq d x (hkd x hxm) (hks x hxm);have hxl:((kids.flatMap aI).drop (k*3)).take 3=aI x:=aH (e:=3) (enc:=aI) eM hx;obtain⟨op',n',kids'⟩:=x;simp only[dr] at hxl ih;cases h1:decide (acc<=most)
  ·rw[if_pos (by have:=of_decide_eq_false h1;omega)] at hall;refine aE (n2 hd h1) ?_;refine zN ?_;refine ai.exit ?_;refine zV ?_;refine zE ?_;exact zO [.tmp 4] (hq:=by (try simp only[aC,ab]);first | done | (rw[hall]))
  rw[if_neg (by have:=of_decide_eq_true h1;omega)] at hall;refine aE (n2 hd h1) ?_;refine zY ?_
  (repeat refine ai.seq ?_)
  refine ai.block ?_;refine gl (n3 hlt hxl @o7) ?_;refine zK (ih (yl most acc)) ?_;refine cS @wO ?_;refine zs ?_;refine ai.r0 (by rfl) (gY (nh (dX hlt hlen (by decide)))) ?_;refine⟨kids.length-(k+1),_,by omega,(Fg.less uR yS),k+1,Gq acc (fq (.mk op' n' kids') (yl most acc)),by omega,rfl,hall,rfl⟩
theorem FN(f:bE)(hf:ji f)(most:Int):PC Tryz.prog 95 [.ag (aI f),aa most] (·=aa (fq f most)):=tq _ f (Nat.lt_succ_self _) hf most
def DW(f:bE):Bool:=decide (fq f 80<=80)
theorem Hu(f:bE)(hf:ji f):PC Tryz.prog 46 [.ag (aI f)] (·=aA (Proofs.DW f)):=by
 refine pB 6 Tryz.func46 ?_;have hN:=FN f hf 80;unfold Proofs.DW;generalize fq f 80=q at hN ⊢;obtain⟨op,n,kids⟩:=f;rw[dr] at hN ⊢;refine ki ?_;refine zK hN ?_;refine zR ?_;refine zE ?_;exact zO [.tmp 2]
theorem Nk{a b:Int}(h : -9223372036854775808<=a+b/\a+b<=9223372036854775807):Gq a b=a+b:=by
 have h1:(qP (-9223372036854775808) (a+b)&&qP (a+b) 9223372036854775807)=true:=by
  rw[eE,eE];simp[h.1,h.2]
 unfold Gq;simp only[dH,LX,LJ,h1,ah]
theorem Ou{a b:Int}(h : -9223372036854775808<=a-b/\a-b<=9223372036854775807):yl a b=a-b:=by
 have h1:(qP (-9223372036854775808) (a-b)&&qP (a-b) 9223372036854775807)=true:=by
  rw[eE,eE];simp[h.1,h.2]
 unfold yl;simp only[dH,LX,LJ,h1,ah]
theorem A4:∀(d:Nat) (f:bE),SizeOf.sizeOf f<d->∀most:Int,-1000<=most->most<=1000->1<=fq f most/\(fq f most<=most+1\/fq f most=1)/\(fq f most<=most->gm f)
 | 0,f,hd,_,_,_=>absurd hd (Nat.not_lt_zero _)
 | d+1,.mk op n kids,hd,most,h0,h1=>by
  have hkd:∀k∈kids,SizeOf.sizeOf k<d:=λk hk=>by
   have h1:=List.sizeOf_lt_of_mem hk
   have h2:SizeOf.sizeOf (bE.mk op n kids)=1+SizeOf.sizeOf op+SizeOf.sizeOf n+SizeOf.sizeOf kids:=by simp
   omega
  have key:∀(ks:List bE) (acc:Int),(∀k∈ks,k∈kids)->1<=acc->(acc<=most+1\/acc=1)->1<=gE ks most acc/\(gE ks most acc<=most+1\/gE ks most acc=1)/\(gE ks most acc<=most->acc+ks.length<=gE ks most acc/\∀k∈ks,gm k):=by
   intro ks
   induction ks with
   | nil=>intro acc _ h2 h3;rw[gE];exact⟨h2,h3,λ_=>⟨by simp,λk hk=>by cases hk⟩⟩
   | cons k ks ih=>
    intro acc hm h2 h3;rw[gE];split
    ·rename_i hlt;exact⟨h2,h3,λh=>by omega⟩
    ·rename_i hlt;rw[Ou (by omega)];obtain⟨b1,b2,b3⟩:=A4 d k (hkd k (hm k List.mem_cons_self)) (most-acc) (by omega) (by omega);rw[Nk (by omega)];obtain⟨c1,c2,c3⟩:=ih (acc+fq k (most-acc)) (λx hx=>hm x (List.mem_cons_of_mem _ hx)) (by omega) (by omega);refine⟨c1,c2,λh=>?_⟩;obtain⟨d1,d2⟩:=c3 h;refine⟨by rw[List.length_cons];omega,λx hx=>?_⟩
     rcases List.mem_cons.1 hx with rfl | hx
     ·exact b3 (by omega)
     ·exact d2 x hx
  rw[fq];obtain⟨c1,c2,c3⟩:=key kids 1 (λ_ h=>h) (Int.le_refl _) (.inr rfl);refine⟨c1,c2,λh=>?_⟩;obtain⟨d1,d2⟩:=c3 h;exact .mk (by omega) d2
theorem Ly{f:bE}(h:DW f=true):gm f:=(A4 _ f (Nat.lt_succ_self _) 80 (by decide) (by decide)).2.2 (of_decide_eq_true h)
def oE(s:ku):Bool:=!(decide (100<(s.name.length:Int)))&&(!(decide (15<(s.kinds.length:Int)))&&s.kinds.all λn=>!(decide (100<(n.length:Int))))
def m9(k:aU):Bool:=!(decide (100<(k.name.length:Int)))&&(!(decide (15<(k.bJ.length:Int)))&&k.bJ.all oE)
def rX(c:List aU):Bool:=!(decide (65<(c.length:Int)))&&c.all m9
theorem Cd{α:Type}{p:α->Bool}{l:List α}{x:α}(hx:x∈l)(hp:p x=false):l.all p=false:=eq_false_iff.2 λh=>by
 have:=all_eq_true.1 h x hx;rw[hp] at this;cases this
set_option maxHeartbeats 2000000 in
theorem Hv(c:List aU):PC Tryz.prog 45 [.ag [an 3 c aq]] (·=aA (Proofs.rX c)):=by
 refine pB 80 Tryz.func45 ?_;refine zV ?_;refine ai.fg (Fg.freeze (f':=[(1,.ip [an 3 c aq])]) 0 rfl (λh=>by cases h) (p6 @an.eq_1)) ?_;refine ai.fg (st':=⟨[(1,.ip [an 3 c aq])],80,[],[]⟩) zH ?_
 (try change ai _ _ _ _ _)
 cases g1:decide (65<(c.length:Int));rotate_left
 ·refine aE g1 ?_;refine cE ?_;refine zE ?_;exact zO [.tmp 2] (hq:=by (try simp only[aC,ab]);first | done | (rw[Proofs.rX,g1];rfl))
 have hlen:c.length<=1000000:=by have:=of_decide_eq_false g1;omega
 have hN:Proofs.rX c=c.all m9:=by rw[Proofs.rX,g1];rfl
 refine aE g1 ?_;refine gX ?_;refine zs ?_;refine zL c (λk=>(c.take k).all m9=true) (λk=>[(1,.ip [an 3 c aq]),(3,aa k)]) (λk=>[]) zH zp ?_;intro k hk hall;by_cases hlt:k<c.length;rotate_left
 ·obtain rfl:k=c.length:=by omega
  rw[take_length] at hall;refine aE (show decide ((c.length:Int)<(c.length:Int))=false by simp) ?_;refine zN ?_;refine ai.exit ?_;refine zV ?_;refine zE ?_;exact zO [.tmp 2] (hq:=by (try simp only[aC,ab]);first | done | (rw[hN,hall]))
 have hd:=show decide ((k:Int)<(c.length:Int))=true by simp only[decide_eq_true_eq];omega
 obtain⟨x,hx⟩:∃x,c[k]?=some x:=⟨c[k],getElem?_eq_getElem hlt⟩
 have hbad:m9 x=false->Proofs.rX c=false:=λh=>by rw[hN];exact Cd (mem_of_getElem? hx) h
 refine aE hd ?_;refine zY ?_
 (repeat refine ai.seq ?_)
 refine ai.block ?_
 (repeat refine ai.seq ?_)
 refine aE (n3 hlt (aH (e:=3) (enc:=aq) (λ_=>rfl) hx) @aq.eq_1) ?_;refine ai.fg (Fg.freeze (f':=[(1,.ip [an 3 c aq]),(3,aa k),(4,.ip [ak x.name,aA x.fN,an 3 x.bJ bH])]) 0 rfl (λh=>by cases h) (p6 @an.eq_1)) ?_;refine ai.fg (st':=⟨[(1,.ip [an 3 c aq]),(3,aa k),(4,.ip [ak x.name,aA x.fN,an 3 x.bJ bH])],80,[],[]⟩) zH ?_
 (try change ai _ _ _ _ _)
 cases j1:decide (100<(x.name.length:Int));rotate_left
 ·refine aE j1 ?_;refine cE ?_;refine zE ?_;exact zO [.tmp 2] (hq:=by (try simp only[aC,ab]);first | done | (rw[hbad (by rw[m9,j1];rfl)]))
 cases j2:decide (15<(x.bJ.length:Int));rotate_left
 ·refine aE (n2 j1 j2) ?_;refine cE ?_;refine zE ?_;exact zO [.tmp 2] (hq:=by (try simp only[aC,ab]);first | done | (rw[hbad (by rw[m9,j1,j2];rfl)]))
 have hkx:m9 x=x.bJ.all oE:=by rw[m9,j1,j2];rfl
 have hlen2:x.bJ.length<=1000000:=by have:=of_decide_eq_false j2;omega
 refine aE (n2 j1 j2) ?_;refine gX ?_;refine zs ?_;refine zL x.bJ (λk2=>(x.bJ.take k2).all oE=true) (λk2=>[(1,.ip [an 3 c aq]),(3,aa k),(4,.ip [ak x.name,aA x.fN,an 3 x.bJ bH]),(5,aa k2)]) (λk2=>[]) zH zp ?_;intro k2 hk2 hall2;by_cases hlt2:k2<x.bJ.length;rotate_left
 ·obtain rfl:k2=x.bJ.length:=by omega
  rw[take_length] at hall2;refine aE (show decide ((x.bJ.length:Int)<(x.bJ.length:Int))=false by simp) ?_;refine zN ?_;refine ai.exit ?_;refine aE (zi hlt hlen) ?_;refine zX hlt zH (kC hx hall (by rw[hkx,hall2]))
 have hd2:=show decide ((k2:Int)<(x.bJ.length:Int))=true by simp only[decide_eq_true_eq];omega
 obtain⟨y,hx2⟩:∃y,x.bJ[k2]?=some y:=⟨x.bJ[k2],getElem?_eq_getElem hlt2⟩
 have hbad2:oE y=false->m9 x=false:=λh=>by rw[hkx];exact Cd (mem_of_getElem? hx2) h
 refine aE hd2 ?_;refine zY ?_
 (repeat refine ai.seq ?_)
 refine ai.block ?_
 (repeat refine ai.seq ?_)
 cases j3:decide (100<(y.name.length:Int));rotate_left
 ·refine aE (n4 hlt2 (aH (e:=3) (enc:=bH) (λ_=>rfl) hx2) @bH.eq_1 j3) ?_;refine cE ?_;refine zE ?_;exact zO [.tmp 2] (hq:=by (try simp only[aC,ab]);first | done | (rw[hbad (hbad2 (by rw[oE,j3];rfl))]))
 cases j4:decide (15<(y.kinds.length:Int));rotate_left
 ·refine aE (n5 hlt2 (aH (e:=3) (enc:=bH) (λ_=>rfl) hx2) @bH.eq_1 j3 j4) ?_;refine cE ?_;refine zE ?_;exact zO [.tmp 2] (hq:=by (try simp only[aC,ab]);first | done | (rw[hbad (hbad2 (by rw[oE,j3,j4];rfl))]))
 have hky:oE y=y.kinds.all λn=>!(decide (100<(n.length:Int))):=by rw[oE,j3,j4];rfl
 have hlen3:y.kinds.length<=1000000:=by have:=of_decide_eq_false j4;omega
 refine aE (n5 hlt2 (aH (e:=3) (enc:=bH) (λ_=>rfl) hx2) @bH.eq_1 j3 j4) ?_;refine gX ?_;refine zs ?_;refine zL y.kinds (λk3=>((y.kinds.take k3).all λn=>!(decide (100<(n.length:Int))))=true) (λk3=>[(1,.ip [an 3 c aq]),(3,aa k),(4,.ip [ak x.name,aA x.fN,an 3 x.bJ bH]),(5,aa k2),(6,aa k3)]) (λk3=>[]) zH zp ?_;intro k3 hk3 hall3;by_cases hlt3:k3<y.kinds.length;rotate_left
 ·obtain rfl:k3=y.kinds.length:=by omega
  rw[take_length] at hall3;refine aE (n4 hlt2 (aH (e:=3) (enc:=bH) (λ_=>rfl) hx2) @bH.eq_1 (show decide ((y.kinds.length:Int)<(y.kinds.length:Int))=false by simp)) ?_;refine zN ?_;refine ai.exit ?_;refine aE (zi hlt2 hlen2) ?_;refine zX hlt2 zH (kC hx2 hall2 (by rw[hky,hall3]))
 have hd3:=show decide ((k3:Int)<(y.kinds.length:Int))=true by simp only[decide_eq_true_eq];omega
 obtain⟨z,hx3⟩:∃z,y.kinds[k3]?=some z:=⟨y.kinds[k3],getElem?_eq_getElem hlt3⟩;refine aE (n4 hlt2 (aH (e:=3) (enc:=bH) (λ_=>rfl) hx2) @bH.eq_1 hd3) ?_;refine zY ?_
 (repeat refine ai.seq ?_)
 refine ai.block ?_;cases j5:decide (100<(z.length:Int));rotate_left
 ·refine aE (n7 hlt2 (aH (e:=3) (enc:=bH) (λ_=>rfl) hx2) @bH.eq_1 hlt3 (aH (e:=1) (enc:=az ak) (λ_=>rfl) hx3) @az.eq_1 j5) ?_;refine cE ?_;refine zE ?_;exact zO [.tmp 2] (hq:=by (try simp only[aC,ab]);first | done | (rw[hbad (hbad2 (by rw[hky];exact Cd (mem_of_getElem? hx3) (by rw[j5];rfl)))]))
 refine aE (n7 hlt2 (aH (e:=3) (enc:=bH) (λ_=>rfl) hx2) @bH.eq_1 hlt3 (aH (e:=1) (enc:=az ak) (λ_=>rfl) hx3) @az.eq_1 j5) ?_;refine zN ?_;refine aE (zi hlt3 hlen3) ?_;refine zX hlt3 zH (kC hx3 hall3 (by rw[j5];rfl))
def xf(c:List aU)(dmg:bE):Bool:=Proofs.rX c&&Proofs.DW dmg
theorem Hx(c:List aU)(dmg:bE)(hf:ji dmg):PC Tryz.prog 18 [.ag (an 3 c aq::aI dmg),.sl 0 14 [],aa 0] (·=aA (Proofs.xf c dmg)):=by
 have hfl:(aI dmg).length=3:=eM dmg;have hft:(aI dmg).take 3=aI dmg:=List.take_of_length_le (by rw[hfl];exact Nat.le_refl _);have hfk:=λo:Nat=>bK (o:=o) (aO dmg);have hfn:=λo:Nat=>du (o:=o) (aO dmg);refine pB 69 Tryz.func18 ?_;refine aE (n2 hfk hfn) ?_;refine ai.fg (Fg.freeze (f':=[(1,.sl 0 14 []),(2,aa 0),(3,.ip (an 3 c aq::aI dmg))]) 0 rfl (λh=>by cases h) ⟨.inl rfl,.inl rfl,.inr (.ptr rfl (bn.refl (aO dmg)) (zero_le _)),trivial⟩) ?_;refine ai.fg (st':=⟨[(1,.sl 0 14 []),(2,aa 0),(3,.ip (an 3 c aq::aI dmg))],69,[],[]⟩) zH ?_
 (try change ai _ _ _ _ _)
 refine zC ?_;refine zK (Hv c) ?_;cases g1:Proofs.rX c
 ·refine zR ?_;refine cE ?_;refine zE ?_;exact zO [.tmp 6] (hq:=by (try simp only[aC,ab]);first | done | (rw[Proofs.xf,g1];rfl))
 refine PH (n2 hfl hft) ?_;refine zK (Hu dmg hf) ?_ (hwk:=bn.cons (.ag (bn.refl (aO dmg))) .nil);cases g2:Proofs.DW dmg
 ·refine zR ?_;refine cE ?_;refine zE ?_;exact zO [.tmp 6] (hq:=by (try simp only[aC,ab]);first | done | (rw[Proofs.xf,g1,g2];rfl))
 refine zR ?_;refine gX ?_;refine zs ?_;refine zL ([]:List bB) (λk=>True) (λk=>[(1,.sl 0 14 []),(7,aa k)]) (λk=>[]) zH zp ?_;intro k hk hall;obtain rfl:k=0:=Nat.le_zero.1 hk;refine Gl ?_;refine ai.exit ?_;refine zV ?_;refine zE ?_;exact zO [.tmp 6] (hq:=by (try simp only[aC,ab]);first | done | (rw[Proofs.xf,g1,g2];rfl))
theorem JV{l:List bB}(h:oN l 6=true):l.length<=6/\∀e∈l,oD e=true:=by
 unfold oN at h;rw[and_eq_true] at h;have h2:=of_decide_eq_true h.2
 have h1:l.length<=6:=by omega
 refine⟨h1,λe he=>?_⟩;have:=nI (n:=l.length) (k:=(6+1:Int).toNat) h.1 (.inr (by show l.length<=7;omega));rw[take_length] at this;exact all_eq_true.1 this e he
structure Nf (e:bB):Prop where
 part:∀b∈e.part,b<256
 kind:∀b∈e.kind,b<256
 bD:∀b∈e.bD,b<256
 slot:∀b∈e.slot,b<256
 key:∀b∈e.key,b<256
 value:∀b∈e.value,b<256
theorem MT{e:bB}(h:oD e=true)(hb:Nf e):oZ e:=by
 unfold oD at h;simp only[and_eq_true,decide_eq_true_eq] at h;exact⟨⟨by omega,hb.part⟩,⟨by omega,hb.kind⟩,⟨by omega,hb.bD⟩,⟨by omega,hb.slot⟩,⟨by omega,hb.key⟩,⟨by omega,hb.value⟩⟩
theorem DX{l:List bq}{most:Nat}(h:rY l most=true)(hb:∀r∈l,∀e∈r.opts,Nf e):l.length<=most/\∀r∈l,ea r/\r.opts.length<=6:=by
 unfold rY at h;split at h
 ·rename_i hm;refine⟨by omega,λr hr=>?_⟩;have h1:=JV (all_eq_true.1 h r hr);exact⟨⟨by omega,λe he=>MT (h1.2 e he) (hb r hr e he)⟩,h1.1⟩
 ·cases h
theorem Lz{c:List aU}(h:rX c=true)(hb:∀k∈c,(∀b∈k.name,b<256)/\∀s∈k.bJ,∀b∈s.name,b<256):jJ c:=by
 unfold rX at h;simp only[and_eq_true,not_eq_true',decide_eq_false_iff_not,all_eq_true] at h
 have hk:∀k∈c,k.name.length<=100/\k.bJ.length<=15/\∀s∈k.bJ,s.name.length<=100/\s.kinds.length<=15:=λk hk=>by
  have:=h.2 k hk;unfold m9 at this;simp only[and_eq_true,not_eq_true',decide_eq_false_iff_not,all_eq_true] at this;refine⟨by omega,by omega,λs hs=>?_⟩;have:=this.2.2 s hs;unfold oE at this;simp only[and_eq_true,not_eq_true',decide_eq_false_iff_not] at this;omega
 exact⟨by omega,λk h1=>⟨⟨by have:=hk k h1;omega,(hb k h1).1⟩,by have:=hk k h1;omega⟩,λk h1 s hs=>⟨⟨by have:=(hk k h1).2.2 s hs;omega,(hb k h1).2 s hs⟩,by have:=(hk k h1).2.2 s hs;omega⟩⟩
def mQ(ws:List Wy)(ps:List aG)(co:Co):List Sh×Int:=if ej ws co=true then (if (k9 ps co.part).isSome=true then (eX (fY ws ps co),0) else ([],2)) else ([],1)
def cV(r:List Sh×Int):SV:=.bI [an 2 r.1 bC,aa r.2]
theorem oI(ws:List Wy)(ps:List aG)(co:Co)(hw:∀w∈ws,w.fits)(hco:co.fits)(hlw:ws.length<=1000)(hlp:ps.length<=100000):
 PC Tryz.prog 11 [an 5 ws bN,.ag [an 14 ps ae],.ag (gU co)] (·=cV (mQ ws ps co)):=by
 refine pB 25 Tryz.func11 ?_;rw[bF];refine zV ?_;refine ai.fg (Fg.freeze (f':=[(0,an 5 ws bN),(4,.ip [an 14 ps ae]),(5,.ptr 1 0)]) 0 rfl (λh=>by cases h) (p6 @an.eq_1)) ?_;refine ai.fg (Fg.freeze (f':=[(0,an 5 ws bN),(4,.ip [an 14 ps ae]),(5,.ip [ak co.part,ak co.owner,aa co.day,aa co.am])]) 1 rfl (λh=>by cases h) (p6 @an.eq_1)) ?_;refine ai.fg (st':=⟨[(0,an 5 ws bN),(4,.ip [an 14 ps ae]),(5,.ip [ak co.part,ak co.owner,aa co.day,aa co.am])],25,[],[]⟩) zH ?_
 (try change ai _ _ _ _ _)
 refine zC ?_;refine zK (vy ws co hw hco hlw) ?_;cases hr:ej ws co
 ·refine zR ?_;refine cE ?_;refine zE ?_;exact zO [.tmp 6,.tmp 7] (r:=.bI [.sl 0 2 [],aa 1]) (hw:=by exact .bI (.cons (.nil _) (.cons (.a _) .nil))) (hq:=by (try simp only[aC,ab]);first | done | (rw[mQ,hr];rfl))
 have hb:=o4 (ps:=ps) hr;have hdv:=th ws ps co hlw hlp hr;have hls:=yI (fY ws ps co) (by have:=hb.len;omega) hb.nodup hb.ne
 have hN:mQ ws ps co=if (k9 ps co.part).isSome=true then (eX (fY ws ps co),0) else ([],2):=by rw[mQ,if_pos hr]
 generalize fY ws ps co=b at hdv hls hN;generalize (k9 ps co.part).isSome=fo at hdv hN;refine zR ?_;refine M9 ?_;refine zK hdv ?_ (hfl:=.inr (bn.refl rfl));refine zR ?_;cases fo
 ·refine wy ?_;refine zV ?_;refine zE ?_;exact zO [.tmp 6,.tmp 7] (r:=.bI [.sl 0 2 [],aa 2]) (hw:=by exact .bI (.cons (.nil _) (.cons (.a _) .nil))) (hq:=by (try simp only[aC,ab]);first | done | (rw[hN];rfl))
 refine Gl ?_;refine zC ?_;refine zK hls ?_ (hfl:=.inr (bn.refl rfl));refine zR ?_;refine zE ?_;exact zO [.tmp 6,.tmp 7] (r:=.bI [an 2 (eX b) bC,aa 0]) (hw:=zv) (hq:=by (try simp only[aC,ab]);first | done | (rw[hN];rfl))
theorem N0{ss:List Sh}{k:Nat}{s:Sh}{p:List Nat}(hx:ss[k]?=some s)(hp:s.pt=p)(hb:((ss.take k).all λs=>!(decide (s.pt=p)))=true):sG ss p=s.am:=by
 have:(ss.find? λs=>decide (s.pt=p))=some s:=by
  rw[List.find?_eq_some_iff_getElem];obtain⟨hlt,he⟩:=List.getElem?_eq_some_iff.1 hx;refine⟨by simpa using hp,k,hlt,he,λj hj=>?_⟩;have h1:=all_eq_true.1 hb (ss[j]'(by omega)) (by rw[List.mem_iff_getElem?];exact⟨j,by rw[List.getElem?_take,if_pos hj];exact getElem?_eq_getElem (by omega)⟩);simpa using h1
 unfold sG;rw[this]
theorem N1{ss:List Sh}{p:List Nat}(hb:(ss.all λs=>!(decide (s.pt=p)))=true):sG ss p=0:=by
 have:(ss.find? λs=>decide (s.pt=p))=none:=by
  rw[List.find?_eq_none];intro s hs;have h1:=all_eq_true.1 hb s hs;simpa using h1
 unfold sG;rw[this]
theorem yK(ss:List Sh)(p:List Nat)(hlen:ss.length<=1000000):PC Tryz.prog 12 [an 2 ss bC,ak p] (·=aa (sG ss p)):=by
 refine pB 24 Tryz.func12 ?_;refine kQ ?_;refine zs ?_;refine zL ss (λk=>((ss.take k).all λs=>!(decide (s.pt=p)))=true) (λk=>[(0,an 2 ss bC),(1,ak p),(5,aa k)]) (λk=>[]) zH zp ?_;intro k hk hall;by_cases hlt:k<ss.length;rotate_left
 ·obtain rfl:k=ss.length:=by omega
  rw[take_length] at hall;refine aE (show decide ((ss.length:Int)<(ss.length:Int))=false by simp) ?_;refine zN ?_;refine ai.exit ?_;refine zV ?_;refine zE ?_;exact zO [.tmp 4] (hq:=by (try simp only[aC,ab]);first | done | (rw[N1 hall]))
 have hd:=show decide ((k:Int)<(ss.length:Int))=true by simp only[decide_eq_true_eq];omega
 obtain⟨s,hx⟩:∃s,ss[k]?=some s:=⟨ss[k],getElem?_eq_getElem hlt⟩;refine aE hd ?_;refine zY ?_
 (repeat refine ai.seq ?_)
 refine ai.block ?_;cases he:decide (s.pt=p)
 ·refine aE (n4 hlt (aH (e:=2) (enc:=bC) (λ_=>rfl) hx) @bC.eq_1 he) ?_;refine zN ?_;refine aE (zi hlt hlen) ?_;refine zX hlt zH (kC hx hall (by rw[he];rfl))
 ·refine aE (n4 hlt (aH (e:=2) (enc:=bC) (λ_=>rfl) hx) @bC.eq_1 he) ?_;refine zY ?_;refine aE (n3 hlt (aH (e:=2) (enc:=bC) (λ_=>rfl) hx) @bC.eq_1) ?_;refine zE ?_;exact zO [.tmp 4] (hq:=by (try simp only[aC,ab]);first | done | (rw[N0 hx (of_decide_eq_true he) hall]))
def DY(l:List bq)(most:Int):Bool:=Proofs.rY l 12&&decide (rG most l 1<=most)
theorem Hz(l:List bq)(most:Int)(hm:most<=1000)(hlen:l.length<=mr)(ho:∀r∈l,r.opts.length<=mr)(hb:∀r∈l,∀e∈r.opts,Nf e):PC Tryz.prog 20 [an 2 l aD,aa most] (·=aA (Proofs.DY l most)):=by
 refine pB 14 Tryz.func20 ?_;refine ki ?_;refine zK (Hy l 12 hlen ho) ?_;cases g1:Proofs.rY l 12
 ·refine zR ?_;refine zE ?_;exact zO [.tmp 4] (hq:=by (try simp only[aC,ab]);first | done | (rw[Proofs.DY,g1];rfl))
 have hk:=DX (most:=12) g1 hb;refine zQ ?_;refine zK (F8 l most hm (λr hr=>(hk.2 r hr).1) (by omega)) ?_;refine zR ?_;refine zE ?_;exact zO [.tmp 4] (hq:=by (try simp only[aC,ab]);first | done | (rw[Proofs.DY,g1];rfl))
def GH(c:List aU)(dmg:bE)(ws:List Wy)(l:List bq)(co:Co):Bool:=Proofs.xf c dmg&&(Proofs.rZ ws co&&Proofs.DY l 60)
theorem KE(c:List aU)(dmg:bE)(ws:List Wy)(l:List bq)(co:Co)(hf:ji dmg)(hlw:ws.length<=mr)(hw:∀w∈ws,w.kind.length<=mr/\w.cK.length<=mr)(hc:co.part.length<=mr/\co.owner.length<=mr)(hlen:l.length<=mr)(ho:∀r∈l,r.opts.length<=mr)(hb:∀r∈l,∀e∈r.opts,Nf e):
 PC Tryz.prog 5 [.ag (an 3 c aq::aI dmg),an 5 ws bN,an 2 l aD,.ag (gU co)] (·=aA (Proofs.GH c dmg ws l co)):=by
 have hfl:(aI dmg).length=3:=eM dmg;have hft:(aI dmg).take 3=aI dmg:=List.take_of_length_le (by rw[hfl];exact Nat.le_refl _);have hfk:=λo:Nat=>bK (o:=o) (aO dmg);have hfn:=λo:Nat=>du (o:=o) (aO dmg);refine pB 20 Tryz.func5 ?_;rw[bF];refine aE (n2 hfk hfn) ?_;refine ai.fg (Fg.freeze (f':=[(1,an 5 ws bN),(2,an 2 l aD),(4,.ip (an 3 c aq::aI dmg)),(7,.ptr 1 0)]) 0 rfl (λh=>by cases h) ⟨.inl rfl,.inl rfl,.inr (.ptr rfl (bn.refl (aO dmg)) (zero_le _)),.inl rfl,trivial⟩) ?_;refine ai.fg (Fg.freeze (f':=[(1,an 5 ws bN),(2,an 2 l aD),(4,.ip (an 3 c aq::aI dmg)),(7,.ip [ak co.part,ak co.owner,aa co.day,aa co.am])]) 1 rfl (λh=>by cases h) (p6 @an.eq_1)) ?_;refine ai.fg (st':=⟨[(1,an 5 ws bN),(2,an 2 l aD),(4,.ip (an 3 c aq::aI dmg)),(7,.ip [ak co.part,ak co.owner,aa co.day,aa co.am])],20,[],[]⟩) zH ?_
 (try change ai _ _ _ _ _)
 refine gl (n2 hfl hft) ?_;refine zK (Hx c dmg hf) ?_ (hwk:=(.cons (.ag (bn.refl (aO dmg))) (.cons (.nil 14) (.cons (.a _) .nil))));cases g1:Proofs.xf c dmg
 ·refine zR ?_;refine zE ?_;exact zO [.tmp 8] (hq:=by (try simp only[aC,ab]);first | done | (rw[Proofs.GH,g1];rfl))
 refine zQ ?_;refine zK (HA ws co hlw hw hc) ?_;cases g2:Proofs.rZ ws co
 ·refine zR ?_;refine zE ?_;exact zO [.tmp 8] (hq:=by (try simp only[aC,ab]);first | done | (rw[Proofs.GH,g1,g2];rfl))
 refine zQ ?_;refine zK (Hz l 60 (by decide) hlen ho hb) ?_;refine zR ?_;refine zE ?_;exact zO [.tmp 8] (hq:=by (try simp only[aC,ab]);first | done | (rw[Proofs.GH,g1,g2];rfl))
end Go.Proofs
