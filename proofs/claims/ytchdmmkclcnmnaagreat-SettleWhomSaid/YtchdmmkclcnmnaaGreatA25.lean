/- Lemmas of this claim, each with its conditions. -/
import Derived.Test.YtchdmmkclcnmnaaGreatA24
import Derived.Test.YtchdmmkclcnmnaaGreatA19
set_option linter.all false
open List renaming length_append -> aa, take_append_of_le_length -> ac, length_drop -> ad, length_take -> af, take_of_length_le -> ap, append_assoc -> a1, drop_append_of_le_length -> a2, flatMap_cons -> a3, length_cons -> a4, flatMap_append -> a5, append_nil -> a6, drop_of_length_le -> a9, take_take -> bb, drop_length -> be, flatMap_nil -> bh, take_length -> bi, length_nil -> bk, map_append -> bo, getElem?_cons_succ -> bs, getElem?_cons_zero -> bt, getElem?_eq_none -> bw, length_replicate -> bx, takeWhile_cons -> bE, getElem?_nil -> b0, map_cons -> b1, length_map -> b3, length_set -> b4, nil_append -> b5, replicate -> b6, all_cons -> b7, map_take -> b8
open Nat renaming min_eq_left -> aj, le_refl -> al, reduceEqDiff -> ax, reduceLeDiff -> ay, reduceAdd -> aR, reduceLT -> aS, reduceMul -> a0, reduceSub -> a7, min_def -> ba, sub_zero -> bc, pos_of_ne_zero -> bN, zero_le -> b2, min_self -> b9
open Option renaming bind_some -> a8, map_some -> bd
open Bool renaming and_eq_true -> bv, or_true -> cc
namespace Go.Proofs
open Go.Ev Go.Lib
set_option maxRecDepth 100000
def DU(Z:List AV):∀m,(rep Z m).length=m*Z.length
 | 0=>by rw[rep,bk,Nat.zero_mul]
 | m+1=>by rw[rep,aa,DU Z m,Nat.succ_mul,Nat.add_comm]
def Aa{Z:List AV}(hZ:Z.all jZ=true):∀m,(rep Z m).all jZ=true
 | 0=>rfl
 | m+1=>by rw[rep,List.all_append,hZ,Aa hZ m];rfl
def ze:∀{l:List AV},l.all jZ=true->(l.map SV.a).all ec=true
 | [],_=>rfl
 | a::l,h=>by
  rw[b7,bv] at h;rw[b1,b7,ze h.2,Bool.and_true];exact h.1
def zb(o:Nat):∀l:List AV,(l.map SV.a).map (bf o)=l.map SV.a
 | []=>rfl
 | a::l=>by rw[b1,b1,zb o l];rfl
def EC:C6 Tryz.prog 186:=by
 intro w a b la ca lb cb tA tB kA kB h1 h2 h3 h4 h5 h6
 rw[run_callFunc_extern Tryz.func186 (by kernel_rfl) (by kernel_rfl) (by kernel_rfl) (e:=Extern.SlicesOverlaps.overlaps #[74,74] #[4]) (by kernel_rfl),
  Lib.run_overlaps_apart w 74 4 73 (by kernel_rfl) 14 (λw=>bZ (by kernel_rfl)) a b la ca lb cb h1 tA tB kA kB h2 h3 h4 h5 h6]
 rfl
set_option maxHeartbeats 1000000 in
def Bq(x:aH):SC Tryz.prog 130 [.e0 14,cx 0,.buf 0 1 14 (some 1)] [.cells (ah x)] [0] (λr S'=>r=ak 14 [x] ah/\S'=[.gone]):=by
 refine GU 95 Tryz.func130 ?_;have hkc:=λo:Nat=>bI (o:=o) (bH x);have hon:(ah x).all ec=true:=rfl;rw[dL] at hkc hon ⊢;refine lC ?_;refine lC ?_;refine iK ?_;refine xd ?_;refine aC (n2 hkc hon) ?_;refine ar.fg (st':=⟨[(6,.buf 1 1 14 none)],95,[.gone,.cells (ah x)],[]⟩) (bL @dL) ?_;refine ar.fg (Fg.freeze (f':=[(6,ak 14 [x] ah)]) 1 rfl (λh=>by cases h) ⟨.inr (.buf rfl (by rw[a3,bh,a6];exact bp.refl (bH x)) (by show 1*14<=14;decide)),trivial⟩) ?_;refine ar.fg (st':=⟨[(6,ak 14 [x] ah)],95,[.gone],[]⟩) zH ?_;refine zE ?_;exact zP [.tmp 6]
def PV(l:List aH)(i:Nat)(x:aH)(hi:i<l.length)(A:List SV):
 (((l.flatMap ah++A).take ((i+1)*14)++((l.drop i).flatMap ah++(l.flatMap ah++A).drop ((i+1)*14+(l.length-i)*14))).take (i*14)++(ah x++((l.flatMap ah++A).take ((i+1)*14)++((l.drop i).flatMap ah++(l.flatMap ah++A).drop ((i+1)*14+(l.length-i)*14))).drop (i*14+14))).take ((l.length+1)*14)=(l.take i++x::l.drop i).flatMap ah:=by
 have hf:∀l:List aH,(l.flatMap ah).length=l.length*14:=aJ (enc:=ah) (e:=14) (λ_=>rfl)
 have h1:((l.flatMap ah++A).take ((i+1)*14)).length=(i+1)*14:=by
  rw[af,aa,hf];omega
 have h2:((l.flatMap ah++A).take ((i+1)*14)).take (i*14)=(l.take i).flatMap ah:=by
  rw[bb,aj (by omega),ac (by rw[hf];omega),hY (enc:=ah) (e:=14) (λ_=>rfl)]
 generalize hB:(l.flatMap ah++A).take ((i+1)*14)=B at h1 h2 ⊢;generalize (l.flatMap ah++A).drop ((i+1)*14+(l.length-i)*14)=R
 have e1:(B++((l.drop i).flatMap ah++R)).take (i*14)=(l.take i).flatMap ah:=by rw[ac (by rw[h1];omega),h2]
 have e2:(B++((l.drop i).flatMap ah++R)).drop (i*14+14)=(l.drop i).flatMap ah++R:=by rw[a2 (by rw[h1];omega),a9 (by rw[h1];omega),b5]
 rw[e1,e2]
 have h3:((l.take i).flatMap ah++(ah x++(l.drop i).flatMap ah)).length=(l.length+1)*14:=by
  rw[aa,aa,hf,hf,show(ah x).length=14 from rfl,af,ad,aj (by omega)];omega
 rw[<-a1 (ah x),<-a1,ac (by rw[h3];exact al _),ap (by rw[h3];exact al _),a5,a3]
set_option maxHeartbeats 1000000 in
def Ek(l:List aH)(i:Nat)(x:aH)(hi:i<=l.length)(hne:0<l.length)(hlen:l.length<=100000):SC Tryz.prog 130 [.buf 0 l.length 14 none,cx i,.buf 1 1 14 (some 1)] [.cells (l.flatMap ah),.cells (ah x)] [0,1] (λr S'=>r=ak 14 (l.take i++x::l.drop i) ah/\S'=[.gone,.gone]):=by
 refine Sm 95 Tryz.func130 ?_;have hkl:=λo:Nat=>aZ (enc:=ah) bH o l;have hkc:=λo:Nat=>bI (o:=o) (bH x);have hon:(ah x).all ec=true:=rfl;have hxl:(ah x).length=14:=rfl;have hxt:(ah x).take 14=ah x:=rfl;have hcl:(l.flatMap ah).length=l.length*14:=aJ (enc:=ah) (e:=14) (λ_=>rfl) l;have htl:(l.flatMap ah).take (l.length*14)=l.flatMap ah:=ap (by rw[hcl];exact al _);have hc1:((1:Nat):Int)=1:=rfl;refine zV ?_;refine aC (Fh hi) ?_;refine aC hc1 ?_;refine aC hc1 ?_;refine iK ?_;by_cases hin:i=l.length
 ·subst hin;refine aC (show decide ((l.length:Int)=(l.length:Int))=true by simp) ?_;refine zY ?_
  have hka:∀o:Nat,(l.flatMap ah++ah x).map (bf o)=l.flatMap ah++ah x:=λo=>by rw[bo,hkl,hkc]
  refine aC (n9 hkc hon hxl hxt hcl htl hka @al (show l.length<=1000000 by omega)) ?_;refine ar.fg (st':=⟨[(6,.buf 0 (l.length+1) 14 none)],95,[.cells (l.flatMap ah++ah x),.gone],[]⟩) zH ?_
  have hq:l.flatMap ah++ah x=(l.take l.length++x::l.drop l.length).flatMap ah:=by rw[bi,be,a5,a3,bh,a6]
  have hqn:(l.take l.length++x::l.drop l.length).length=l.length+1:=by rw[bi,be,aa,a4,bk]
  rw[hq];refine ar.fg (Fg.freeze (f':=[(6,ak 14 (l.take l.length++x::l.drop l.length) ah)]) 0 rfl (λh=>by cases h) ⟨.inr (by rw[lM,hqn];exact .buf rfl (by rw[<-hqn,cV (enc:=ah) (e:=14) (λ_=>rfl)];exact bp.refl (aB bH _)) (by rw[aJ (enc:=ah) (e:=14) (λ_=>rfl),hqn];exact al _)),trivial⟩) ?_;refine zE ?_;exact zP [.tmp 6]
 have hlt:i<l.length:=by omega
 refine aC (show decide ((i:Int)=(l.length:Int))=false by simp only[wp];omega) ?_;refine zN ?_;refine ar.DX 0 (by decide) rfl rfl ?_;intro cap hcap;obtain⟨A,hA⟩:∃A,A=b6 (cap*14-(l.flatMap ah).length) SV.any:=⟨_,rfl⟩;rw[<-hA]
 have hAl:A.length=cap*14-l.length*14:=by rw[hA,bx,hcl]
 by_cases hroom:cap<l.length+1
 ·obtain rfl:cap=l.length:=by omega
  obtain rfl:A=[]:=List.length_eq_zero_iff.1 (by rw[hAl];omega);rw[a6];clear hA hAl;refine aC (n3 hc1 (p9 (show -9223372036854775808<=(l.length:Int)+1/\(l.length:Int)+1<=9223372036854775807 from⟨by omega,by omega⟩)) (show decide ((l.length:Int)<(l.length:Int)+1)=true by simp only[wr];omega)) ?_;refine zY ?_;obtain⟨m,hm⟩:∃m,m=l.length+1-i:=⟨_,rfl⟩;obtain⟨R,hR⟩:∃R,R=(rep [.str [],.str [],.str [],.str [],.int .i64 0,.int .i64 0,.bool false,.slice none 0 0 (some 0),.int .i64 0,.int .i64 0,.int .i64 0,.int .i64 0,.int .i64 0,.int .i64 0] m).map SV.a:=⟨_,rfl⟩
  have hRl:R.length=m*14:=by rw[hR,b3,DU];rfl
  have hRo:R.all ec=true:=by rw[hR];exact ze (Aa rfl m)
  have hRk:∀o:Nat,R.map (bf o)=R:=λo=>by rw[hR];exact zb o _
  obtain⟨c1,hc1e⟩:∃c1,c1=(l.flatMap ah).take (i*14)++R:=⟨_,rfl⟩
  have hc1l:c1.length=(l.length+1)*14:=by rw[hc1e,aa,af,hcl,hRl,aj (by omega),hm];omega
  have hc1k:∀o:Nat,c1.map (bf o)=c1:=λo=>by rw[hc1e,bo,hRk,b8,hkl]
  refine zs ?_;refine ar.r0 (by rfl) (by simp only[bP,bg,ak,aw,a8,bd,↓reduceIte,ax,aR,a0,ay,aS,ai,an,aU,hc1,Kf hi,bA (l.length:Int) 1 (by omega),bS ((l.length:Int)+1) (i:Int) (by omega),show((l.length:Int)+1-(i:Int))=(m:Int) by omega,<-hR,hRo,bc,show m<=1000000 by omega,show ¬m=0 by omega,show i<=1000000 by omega,hcl,show i*14<=l.length*14 by omega,show l.length<l.length+1 by omega,show i+m=l.length+1 by omega,<-hc1e,hc1k,hkl,hkc];first | done | rfl) ?_;obtain⟨c2,hc2e⟩:∃c2,c2=c1.take (i*14)++(ah x++c1.drop (i*14+14)):=⟨_,rfl⟩
  have hc2l:c2.length=(l.length+1)*14:=by rw[hc2e,aa,aa,af,ad,hc1l,hxl];omega
  refine aC (n8 (Fh (show i<=l.length+1 by omega)) hxl hxt (show Nat.min 1 (l.length+1-i)=1 by simp only[ba];rw[ul (by omega)]) hc1l (show i*14+14<=(l.length+1)*14 by omega) hon (Eq.symm hc2e)) ?_
  have hdr:((l.flatMap ah).drop (i*14)).take ((l.length-i)*14)=(l.drop i).flatMap ah:=by
   rw[kK (enc:=ah) (e:=14) (λ_=>rfl),ap];rw[aJ (enc:=ah) (e:=14) (λ_=>rfl),ad];exact al _
  have hdl:((l.drop i).flatMap ah).length=(l.length-i)*14:=by rw[aJ (enc:=ah) (e:=14) (λ_=>rfl),ad]
  have hdt:((l.drop i).flatMap ah).take ((l.length-i)*14)=(l.drop i).flatMap ah:=ap (by rw[hdl];exact al _);have hdo:((l.drop i).flatMap ah).all ec=true:=vH (l.drop i);obtain⟨c3,hc3e⟩:∃c3,c3=c2.take ((i+1)*14)++((l.drop i).flatMap ah++c2.drop ((i+1)*14+(l.length-i)*14)):=⟨_,rfl⟩
  have hfin:c3=(l.take i++x::l.drop i).flatMap ah:=by
   have e0:c1.take (i*14)=(l.take i).flatMap ah:=by
    rw[hc1e,ac (by rw[af,hcl];omega),bb,b9,hY (enc:=ah) (e:=14) (λ_=>rfl)]
   have e1:((l.take i).flatMap ah++ah x).length=(i+1)*14:=by
    rw[aa,aJ (enc:=ah) (e:=14) (λ_=>rfl),hxl,af,aj hi];omega
   rw[hc3e,show c2.drop ((i+1)*14+(l.length-i)*14)=[] from a9 (by rw[hc2l];omega),a6,hc2e,e0,<-a1,ac (by rw[e1];exact al _),ap (by rw[e1];exact al _),a5,a3,a1]
  refine zs ?_;refine oz [0,0,0,6,15,0,0,96,255] ?_
  (repeat (first | refine SD.r (by rfl) rfl (by rfl) (by rfl) (gQ (n4 (bA (i:Int) 1 (by omega)) (qE) (Fh (show i+1<=l.length+1 by omega)) (Fh hi))) ?_ | refine SD.s (by rfl) rfl (by rfl) (by rfl) ?_ | fail))
  refine SD.ed (by rfl) rfl (by rfl) rfl rfl (by rfl) (by simp only[bP,bg,ak,aw,a8,bd,↓reduceIte,ax,aR,a0,ay,aS,ai,an,aU,hcl,hc2l,show i*14+(l.length-i)*14<=l.length*14 by omega,show Nat.min (l.length-i) (l.length+1-(i+1))=l.length-i by simp only[ba];split<;>omega,show ¬(l.length-i=0) by omega,show(i+1)*14+(l.length-i)*14<=(l.length+1)*14 by omega,hdr,hdl,hdt,hdo,al,<-hc3e];first | done | rfl) ?_;refine zM ?_;refine zV ?_
  have hqn:(l.take i++x::l.drop i).length=l.length+1:=by rw[aa,a4,af,ad,aj hi];omega
  rw[hfin];refine ar.fg (st':=⟨[(6,.buf 2 (l.length+1) 14 none)],95,[.gone,.gone,.cells ((l.take i++x::l.drop i).flatMap ah)],[]⟩) zH ?_;refine ar.fg (Fg.freeze (f':=[(6,ak 14 (l.take i++x::l.drop i) ah)]) 2 rfl (λh=>by cases h) ⟨.inr (by rw[lM,hqn];exact .buf rfl (by rw[<-hqn,cV (enc:=ah) (e:=14) (λ_=>rfl)];exact bp.refl (aB bH _)) (by rw[aJ (enc:=ah) (e:=14) (λ_=>rfl),hqn];exact al _)),trivial⟩) ?_;refine ar.fg (st':=⟨[(6,ak 14 (l.take i++x::l.drop i) ah)],95,[.gone,.gone],[]⟩) zH ?_;refine zE ?_;exact zP [.tmp 6]
 have hcap2:l.length+1<=cap:=by omega
 have hXl:(l.flatMap ah++A).length=cap*14:=by rw[aa,hcl,hAl];omega
 have hnn:(-9223372036854775808:Int)<=(l.length:Int)+1/\(l.length:Int)+1<=9223372036854775807:=⟨by omega,by omega⟩;refine aC (n3 hc1 (p9 hnn) (show decide ((cap:Int)<(l.length:Int)+1)=false by simp only[wp];omega)) ?_;refine zN ?_
 have hbt:cQ l.length (some cap) none (some (.int .i64 ((l.length+1:Nat):Int))) none=some (0,l.length+1,some cap):=by
  unfold cQ nC oH;simp only[jY,a8,eN hcap2,cc,ai]
 refine zs ?_;refine ar.r0 (by rfl) (gQ (n4 hc1 (p9 hnn) (qE) hbt)) ?_;have hii:(-9223372036854775808:Int)<=(i:Int)+1/\(i:Int)+1<=9223372036854775807:=⟨by omega,by omega⟩;refine zs ?_;refine ar.Pz (by rfl) (gQ (n5 hc1 (p9 hii) (qE) (Fh (show i+1<=l.length+1 by omega)) @bc)) ?_;refine aI.Uo EC (by rfl) rfl rfl (by rfl) rfl zc rfl rfl rfl rfl (by decide) (by decide) (by omega) (by rw[hXl];omega) ?_;refine zR ?_;refine zY ?_
 have hdr:(((l.flatMap ah++A).drop (i*14)).take ((l.length+1-i)*14)).take ((l.length-i)*14)=(l.drop i).flatMap ah:=by
  rw[bb,aj (by omega),a2 (by rw[hcl];omega),kK (enc:=ah) (e:=14) (λ_=>rfl),ac (by rw[aJ (enc:=ah) (e:=14) (λ_=>rfl),ad];exact al _),ap];rw[aJ (enc:=ah) (e:=14) (λ_=>rfl),ad];exact al _
 have hdl:(((l.flatMap ah++A).drop (i*14)).take ((l.length+1-i)*14)).length=(l.length+1-i)*14:=by
  rw[af,ad,hXl,aj (by omega)]
 have hdo:((l.drop i).flatMap ah).all ec=true:=vH (l.drop i);obtain⟨w1,hw1⟩:∃w1,w1=(l.flatMap ah++A).take ((i+1)*14)++((l.drop i).flatMap ah++(l.flatMap ah++A).drop ((i+1)*14+(l.length-i)*14)):=⟨_,rfl⟩
 have hw1l:w1.length=cap*14:=by rw[hw1,aa,aa,af,ad,hXl,aJ (enc:=ah) (e:=14) (λ_=>rfl),ad,aj (by omega)];omega
 obtain⟨w2,hw2⟩:∃w2,w2=w1.take (i*14)++(ah x++w1.drop (i*14+14)):=⟨_,rfl⟩
 have hw2l:w2.length=cap*14:=by rw[hw2,aa,aa,af,ad,hw1l,hxl,aj (by omega)];omega
 have hfin:w2.take ((l.length+1)*14)=(l.take i++x::l.drop i).flatMap ah:=by rw[hw2,hw1];exact PV l i x hlt A
 refine zs ?_;refine oz [0,0,0,6,15,0,0,96,255] ?_
 (repeat (first | refine SD.r (by rfl) rfl (by rfl) (by rfl) (gQ (n5 (p9 hii) (qE) (Fh (show i+1<=l.length+1 by omega)) (Fh (show i<=l.length+1 by omega)) @bc)) ?_ | refine SD.s (by rfl) rfl (by rfl) (by rfl) ?_ | fail))
 refine SD.ed (by rfl) rfl (by rfl) rfl rfl (by rfl) (by simp only[bP,bg,ak,aw,a8,bd,↓reduceIte,ax,aR,a0,ay,aS,ai,an,aU,hXl,hcl,show i*14+(l.length+1-i)*14<=cap*14 by omega,show Nat.min (l.length+1-i) (l.length+1-(i+1))=l.length-i by simp only[ba];split<;>omega,show ¬(l.length-i=0) by omega,show(i+1)*14+(l.length-i)*14<=cap*14 by omega,hdr,hdl,show(l.length-i)*14<=(l.length+1-i)*14 by omega,hdo,al,<-hw1];first | done | rfl) ?_;refine zM ?_;refine aC (n8 (Fh (show i<=l.length+1 by omega)) hxl hxt (show Nat.min 1 (l.length+1-i)=1 by simp only[ba];rw[ul (by omega)]) hw1l (show i*14+14<=cap*14 by omega) hon (Eq.symm hw2)) ?_;refine zV ?_
 have hqn:(l.take i++x::l.drop i).length=l.length+1:=by rw[aa,a4,af,ad,aj hi];omega
 refine ar.fg (st':=⟨[(6,.buf 0 (l.length+1) 14 (some cap))],95,[.cells w2,.gone],[]⟩) zH ?_;refine ar.fg (Fg.freeze (f':=[(6,ak 14 (l.take i++x::l.drop i) ah)]) 0 rfl (λh=>by cases h) ⟨.inr (by rw[lM,hqn];exact .buf rfl (by rw[hfin];exact bp.refl (aB bH _)) (by rw[hw2l];omega)),trivial⟩) ?_;refine zE ?_;exact zP [.tmp 6]
def ED:C6 Tryz.prog 192:=by
 intro w a b la ca lb cb tA tB kA kB h1 h2 h3 h4 h5 h6
 rw[run_callFunc_extern Tryz.func192 (by kernel_rfl) (by kernel_rfl) (by kernel_rfl) (e:=Extern.SlicesOverlaps.overlaps #[69,69] #[4]) (by kernel_rfl),
  Lib.run_overlaps_apart w 69 4 174 (by kernel_rfl) 2 (λw=>bZ (by kernel_rfl)) a b la ca lb cb h1 tA tB kA kB h2 h3 h4 h5 h6]
 rfl
set_option maxHeartbeats 1000000 in
def Br(x:bO):SC Tryz.prog 138 [.e0 2,cx 0,.buf 0 1 2 (some 1)] [.cells (au x)] [0] (λr S'=>r=ak 2 [x] au/\S'=[.gone]):=by
 refine GU 95 Tryz.func138 ?_;have hkc:=λo:Nat=>bI (o:=o) (bY x);have hon:(au x).all ec=true:=rfl;rw[mF] at hkc hon ⊢;refine lC ?_;refine lC ?_;refine iK ?_;refine xd ?_;refine aC (n2 hkc hon) ?_;refine ar.fg (st':=⟨[(6,.buf 1 1 2 none)],95,[.gone,.cells (au x)],[]⟩) (bL @mF) ?_;refine ar.fg (Fg.freeze (f':=[(6,ak 2 [x] au)]) 1 rfl (λh=>by cases h) ⟨.inr (.buf rfl (by rw[a3,bh,a6];exact bp.refl (bY x)) (by show 1*2<=2;decide)),trivial⟩) ?_;refine ar.fg (st':=⟨[(6,ak 2 [x] au)],95,[.gone],[]⟩) zH ?_;refine zE ?_;exact zP [.tmp 6]
def PW(l:List bO)(i:Nat)(x:bO)(hi:i<l.length)(A:List SV):
 (((l.flatMap au++A).take ((i+1)*2)++((l.drop i).flatMap au++(l.flatMap au++A).drop ((i+1)*2+(l.length-i)*2))).take (i*2)++(au x++((l.flatMap au++A).take ((i+1)*2)++((l.drop i).flatMap au++(l.flatMap au++A).drop ((i+1)*2+(l.length-i)*2))).drop (i*2+2))).take ((l.length+1)*2)=(l.take i++x::l.drop i).flatMap au:=by
 have hf:∀l:List bO,(l.flatMap au).length=l.length*2:=aJ (enc:=au) (e:=2) (λ_=>rfl)
 have h1:((l.flatMap au++A).take ((i+1)*2)).length=(i+1)*2:=by
  rw[af,aa,hf];omega
 have h2:((l.flatMap au++A).take ((i+1)*2)).take (i*2)=(l.take i).flatMap au:=by
  rw[bb,aj (by omega),ac (by rw[hf];omega),hY (enc:=au) (e:=2) (λ_=>rfl)]
 generalize hB:(l.flatMap au++A).take ((i+1)*2)=B at h1 h2 ⊢;generalize (l.flatMap au++A).drop ((i+1)*2+(l.length-i)*2)=R
 have e1:(B++((l.drop i).flatMap au++R)).take (i*2)=(l.take i).flatMap au:=by rw[ac (by rw[h1];omega),h2]
 have e2:(B++((l.drop i).flatMap au++R)).drop (i*2+2)=(l.drop i).flatMap au++R:=by rw[a2 (by rw[h1];omega),a9 (by rw[h1];omega),b5]
 rw[e1,e2]
 have h3:((l.take i).flatMap au++(au x++(l.drop i).flatMap au)).length=(l.length+1)*2:=by
  rw[aa,aa,hf,hf,show(au x).length=2 from rfl,af,ad,aj (by omega)];omega
 rw[<-a1 (au x),<-a1,ac (by rw[h3];exact al _),ap (by rw[h3];exact al _),a5,a3]
set_option maxHeartbeats 1000000 in
def El(l:List bO)(i:Nat)(x:bO)(hi:i<=l.length)(hne:0<l.length)(hlen:l.length<=100000):SC Tryz.prog 138 [.buf 0 l.length 2 none,cx i,.buf 1 1 2 (some 1)] [.cells (l.flatMap au),.cells (au x)] [0,1] (λr S'=>r=ak 2 (l.take i++x::l.drop i) au/\S'=[.gone,.gone]):=by
 refine Sm 95 Tryz.func138 ?_;have hkl:=λo:Nat=>aZ (enc:=au) bY o l;have hkc:=λo:Nat=>bI (o:=o) (bY x);have hon:(au x).all ec=true:=rfl;have hxl:(au x).length=2:=rfl;have hxt:(au x).take 2=au x:=rfl;have hcl:(l.flatMap au).length=l.length*2:=aJ (enc:=au) (e:=2) (λ_=>rfl) l;have htl:(l.flatMap au).take (l.length*2)=l.flatMap au:=ap (by rw[hcl];exact al _);have hc1:((1:Nat):Int)=1:=rfl;refine zV ?_;refine aC (Fh hi) ?_;refine aC hc1 ?_;refine aC hc1 ?_;refine iK ?_;by_cases hin:i=l.length
 ·subst hin;refine aC (show decide ((l.length:Int)=(l.length:Int))=true by simp) ?_;refine zY ?_
  have hka:∀o:Nat,(l.flatMap au++au x).map (bf o)=l.flatMap au++au x:=λo=>by rw[bo,hkl,hkc]
  refine aC (n9 hkc hon hxl hxt hcl htl hka @al (show l.length<=1000000 by omega)) ?_;refine ar.fg (st':=⟨[(6,.buf 0 (l.length+1) 2 none)],95,[.cells (l.flatMap au++au x),.gone],[]⟩) zH ?_
  have hq:l.flatMap au++au x=(l.take l.length++x::l.drop l.length).flatMap au:=by rw[bi,be,a5,a3,bh,a6]
  have hqn:(l.take l.length++x::l.drop l.length).length=l.length+1:=by rw[bi,be,aa,a4,bk]
  rw[hq];refine ar.fg (Fg.freeze (f':=[(6,ak 2 (l.take l.length++x::l.drop l.length) au)]) 0 rfl (λh=>by cases h) ⟨.inr (by rw[lM,hqn];exact .buf rfl (by rw[<-hqn,cV (enc:=au) (e:=2) (λ_=>rfl)];exact bp.refl (aB bY _)) (by rw[aJ (enc:=au) (e:=2) (λ_=>rfl),hqn];exact al _)),trivial⟩) ?_;refine zE ?_;exact zP [.tmp 6]
 have hlt:i<l.length:=by omega
 refine aC (show decide ((i:Int)=(l.length:Int))=false by simp only[wp];omega) ?_;refine zN ?_;refine ar.DX 0 (by decide) rfl rfl ?_;intro cap hcap;obtain⟨A,hA⟩:∃A,A=b6 (cap*2-(l.flatMap au).length) SV.any:=⟨_,rfl⟩;rw[<-hA]
 have hAl:A.length=cap*2-l.length*2:=by rw[hA,bx,hcl]
 by_cases hroom:cap<l.length+1
 ·obtain rfl:cap=l.length:=by omega
  obtain rfl:A=[]:=List.length_eq_zero_iff.1 (by rw[hAl];omega);rw[a6];clear hA hAl;refine aC (n3 hc1 (p9 (show -9223372036854775808<=(l.length:Int)+1/\(l.length:Int)+1<=9223372036854775807 from⟨by omega,by omega⟩)) (show decide ((l.length:Int)<(l.length:Int)+1)=true by simp only[wr];omega)) ?_;refine zY ?_;obtain⟨m,hm⟩:∃m,m=l.length+1-i:=⟨_,rfl⟩;obtain⟨R,hR⟩:∃R,R=(rep [.str [],.str []] m).map SV.a:=⟨_,rfl⟩
  have hRl:R.length=m*2:=by rw[hR,b3,DU];rfl
  have hRo:R.all ec=true:=by rw[hR];exact ze (Aa rfl m)
  have hRk:∀o:Nat,R.map (bf o)=R:=λo=>by rw[hR];exact zb o _
  obtain⟨c1,hc1e⟩:∃c1,c1=(l.flatMap au).take (i*2)++R:=⟨_,rfl⟩
  have hc1l:c1.length=(l.length+1)*2:=by rw[hc1e,aa,af,hcl,hRl,aj (by omega),hm];omega
  have hc1k:∀o:Nat,c1.map (bf o)=c1:=λo=>by rw[hc1e,bo,hRk,b8,hkl]
  refine zs ?_;refine ar.r0 (by rfl) (by simp only[bP,bg,ak,aw,a8,bd,↓reduceIte,ax,aR,a0,ay,aS,ai,an,aU,hc1,Kf hi,bA (l.length:Int) 1 (by omega),bS ((l.length:Int)+1) (i:Int) (by omega),show((l.length:Int)+1-(i:Int))=(m:Int) by omega,<-hR,hRo,bc,show m<=1000000 by omega,show ¬m=0 by omega,show i<=1000000 by omega,hcl,show i*2<=l.length*2 by omega,show l.length<l.length+1 by omega,show i+m=l.length+1 by omega,<-hc1e,hc1k,hkl,hkc];first | done | rfl) ?_;obtain⟨c2,hc2e⟩:∃c2,c2=c1.take (i*2)++(au x++c1.drop (i*2+2)):=⟨_,rfl⟩
  have hc2l:c2.length=(l.length+1)*2:=by rw[hc2e,aa,aa,af,ad,hc1l,hxl];omega
  refine aC (n8 (Fh (show i<=l.length+1 by omega)) hxl hxt (show Nat.min 1 (l.length+1-i)=1 by simp only[ba];rw[ul (by omega)]) hc1l (show i*2+2<=(l.length+1)*2 by omega) hon (Eq.symm hc2e)) ?_
  have hdr:((l.flatMap au).drop (i*2)).take ((l.length-i)*2)=(l.drop i).flatMap au:=by
   rw[kK (enc:=au) (e:=2) (λ_=>rfl),ap];rw[aJ (enc:=au) (e:=2) (λ_=>rfl),ad];exact al _
  have hdl:((l.drop i).flatMap au).length=(l.length-i)*2:=by rw[aJ (enc:=au) (e:=2) (λ_=>rfl),ad]
  have hdt:((l.drop i).flatMap au).take ((l.length-i)*2)=(l.drop i).flatMap au:=ap (by rw[hdl];exact al _);have hdo:((l.drop i).flatMap au).all ec=true:=vM (l.drop i);obtain⟨c3,hc3e⟩:∃c3,c3=c2.take ((i+1)*2)++((l.drop i).flatMap au++c2.drop ((i+1)*2+(l.length-i)*2)):=⟨_,rfl⟩
  have hfin:c3=(l.take i++x::l.drop i).flatMap au:=by
   have e0:c1.take (i*2)=(l.take i).flatMap au:=by
    rw[hc1e,ac (by rw[af,hcl];omega),bb,b9,hY (enc:=au) (e:=2) (λ_=>rfl)]
   have e1:((l.take i).flatMap au++au x).length=(i+1)*2:=by
    rw[aa,aJ (enc:=au) (e:=2) (λ_=>rfl),hxl,af,aj hi];omega
   rw[hc3e,show c2.drop ((i+1)*2+(l.length-i)*2)=[] from a9 (by rw[hc2l];omega),a6,hc2e,e0,<-a1,ac (by rw[e1];exact al _),ap (by rw[e1];exact al _),a5,a3,a1]
  refine zs ?_;refine oz [0,0,0,6,15,0,0,96,255] ?_
  (repeat (first | refine SD.r (by rfl) rfl (by rfl) (by rfl) (gQ (n4 (bA (i:Int) 1 (by omega)) (qE) (Fh (show i+1<=l.length+1 by omega)) (Fh hi))) ?_ | refine SD.s (by rfl) rfl (by rfl) (by rfl) ?_ | fail))
  refine SD.ed (by rfl) rfl (by rfl) rfl rfl (by rfl) (by simp only[bP,bg,ak,aw,a8,bd,↓reduceIte,ax,aR,a0,ay,aS,ai,an,aU,hcl,hc2l,show i*2+(l.length-i)*2<=l.length*2 by omega,show Nat.min (l.length-i) (l.length+1-(i+1))=l.length-i by simp only[ba];split<;>omega,show ¬(l.length-i=0) by omega,show(i+1)*2+(l.length-i)*2<=(l.length+1)*2 by omega,hdr,hdl,hdt,hdo,al,<-hc3e];first | done | rfl) ?_;refine zM ?_;refine zV ?_
  have hqn:(l.take i++x::l.drop i).length=l.length+1:=by rw[aa,a4,af,ad,aj hi];omega
  rw[hfin];refine ar.fg (st':=⟨[(6,.buf 2 (l.length+1) 2 none)],95,[.gone,.gone,.cells ((l.take i++x::l.drop i).flatMap au)],[]⟩) zH ?_;refine ar.fg (Fg.freeze (f':=[(6,ak 2 (l.take i++x::l.drop i) au)]) 2 rfl (λh=>by cases h) ⟨.inr (by rw[lM,hqn];exact .buf rfl (by rw[<-hqn,cV (enc:=au) (e:=2) (λ_=>rfl)];exact bp.refl (aB bY _)) (by rw[aJ (enc:=au) (e:=2) (λ_=>rfl),hqn];exact al _)),trivial⟩) ?_;refine ar.fg (st':=⟨[(6,ak 2 (l.take i++x::l.drop i) au)],95,[.gone,.gone],[]⟩) zH ?_;refine zE ?_;exact zP [.tmp 6]
 have hcap2:l.length+1<=cap:=by omega
 have hXl:(l.flatMap au++A).length=cap*2:=by rw[aa,hcl,hAl];omega
 have hnn:(-9223372036854775808:Int)<=(l.length:Int)+1/\(l.length:Int)+1<=9223372036854775807:=⟨by omega,by omega⟩;refine aC (n3 hc1 (p9 hnn) (show decide ((cap:Int)<(l.length:Int)+1)=false by simp only[wp];omega)) ?_;refine zN ?_
 have hbt:cQ l.length (some cap) none (some (.int .i64 ((l.length+1:Nat):Int))) none=some (0,l.length+1,some cap):=by
  unfold cQ nC oH;simp only[jY,a8,eN hcap2,cc,ai]
 refine zs ?_;refine ar.r0 (by rfl) (gQ (n4 hc1 (p9 hnn) (qE) hbt)) ?_;have hii:(-9223372036854775808:Int)<=(i:Int)+1/\(i:Int)+1<=9223372036854775807:=⟨by omega,by omega⟩;refine zs ?_;refine ar.Pz (by rfl) (gQ (n5 hc1 (p9 hii) (qE) (Fh (show i+1<=l.length+1 by omega)) @bc)) ?_;refine aI.Uo ED (by rfl) rfl rfl (by rfl) rfl zc rfl rfl rfl rfl (by decide) (by decide) (by omega) (by rw[hXl];omega) ?_;refine zR ?_;refine zY ?_
 have hdr:(((l.flatMap au++A).drop (i*2)).take ((l.length+1-i)*2)).take ((l.length-i)*2)=(l.drop i).flatMap au:=by
  rw[bb,aj (by omega),a2 (by rw[hcl];omega),kK (enc:=au) (e:=2) (λ_=>rfl),ac (by rw[aJ (enc:=au) (e:=2) (λ_=>rfl),ad];exact al _),ap];rw[aJ (enc:=au) (e:=2) (λ_=>rfl),ad];exact al _
 have hdl:(((l.flatMap au++A).drop (i*2)).take ((l.length+1-i)*2)).length=(l.length+1-i)*2:=by
  rw[af,ad,hXl,aj (by omega)]
 have hdo:((l.drop i).flatMap au).all ec=true:=vM (l.drop i);obtain⟨w1,hw1⟩:∃w1,w1=(l.flatMap au++A).take ((i+1)*2)++((l.drop i).flatMap au++(l.flatMap au++A).drop ((i+1)*2+(l.length-i)*2)):=⟨_,rfl⟩
 have hw1l:w1.length=cap*2:=by rw[hw1,aa,aa,af,ad,hXl,aJ (enc:=au) (e:=2) (λ_=>rfl),ad,aj (by omega)];omega
 obtain⟨w2,hw2⟩:∃w2,w2=w1.take (i*2)++(au x++w1.drop (i*2+2)):=⟨_,rfl⟩
 have hw2l:w2.length=cap*2:=by rw[hw2,aa,aa,af,ad,hw1l,hxl,aj (by omega)];omega
 have hfin:w2.take ((l.length+1)*2)=(l.take i++x::l.drop i).flatMap au:=by rw[hw2,hw1];exact PW l i x hlt A
 refine zs ?_;refine oz [0,0,0,6,15,0,0,96,255] ?_
 (repeat (first | refine SD.r (by rfl) rfl (by rfl) (by rfl) (gQ (n5 (p9 hii) (qE) (Fh (show i+1<=l.length+1 by omega)) (Fh (show i<=l.length+1 by omega)) @bc)) ?_ | refine SD.s (by rfl) rfl (by rfl) (by rfl) ?_ | fail))
 refine SD.ed (by rfl) rfl (by rfl) rfl rfl (by rfl) (by simp only[bP,bg,ak,aw,a8,bd,↓reduceIte,ax,aR,a0,ay,aS,ai,an,aU,hXl,hcl,show i*2+(l.length+1-i)*2<=cap*2 by omega,show Nat.min (l.length+1-i) (l.length+1-(i+1))=l.length-i by simp only[ba];split<;>omega,show ¬(l.length-i=0) by omega,show(i+1)*2+(l.length-i)*2<=cap*2 by omega,hdr,hdl,show(l.length-i)*2<=(l.length+1-i)*2 by omega,hdo,al,<-hw1];first | done | rfl) ?_;refine zM ?_;refine aC (n8 (Fh (show i<=l.length+1 by omega)) hxl hxt (show Nat.min 1 (l.length+1-i)=1 by simp only[ba];rw[ul (by omega)]) hw1l (show i*2+2<=cap*2 by omega) hon (Eq.symm hw2)) ?_;refine zV ?_
 have hqn:(l.take i++x::l.drop i).length=l.length+1:=by rw[aa,a4,af,ad,aj hi];omega
 refine ar.fg (st':=⟨[(6,.buf 0 (l.length+1) 2 (some cap))],95,[.cells w2,.gone],[]⟩) zH ?_;refine ar.fg (Fg.freeze (f':=[(6,ak 2 (l.take i++x::l.drop i) au)]) 0 rfl (λh=>by cases h) ⟨.inr (by rw[lM,hqn];exact .buf rfl (by rw[hfin];exact bp.refl (aB bY _)) (by rw[hw2l];omega)),trivial⟩) ?_;refine zE ?_;exact zP [.tmp 6]
open Go.Ev
def KO{a:List Nat}:∀{l:List (List Nat)},kS (a::l)=true->∀x∈l,gJ a x=true
 | [],_,x,h=>by simp at h
 | b::r,ho,x,h=>by
  rw[kS,bv] at ho
  rcases List.mem_cons.1 h with rfl | h
  ·exact ho.1
  ·exact jx ho.1 (KO ho.2 x h)
def Mk{a:List Nat}{l:List (List Nat)}(h:kS (a::l)=true):kS l=true:=by
 cases l with
 | nil=>rfl
 | cons b r=>rw[kS,bv] at h;exact h.2
def qW{α:Type}(key:α->List Nat):∀{l:List α},kS (l.map key)=true->∀k:List Nat,(l.takeWhile λx=>gJ (key x) k).length<=l.length/\∀(a:Nat) (x:α),l[a]?=some x->(gJ (key x) k=true↔a<(l.takeWhile λx=>gJ (key x) k).length)
 | [],_,k=>⟨al _,λa x h=>by simp at h⟩
 | y::l,ho,k=>by
  have ih:=qW key (Mk ho) k;have hlt:=KO (a:=key y) (l:=l.map key) ho
  cases h:gJ (key y) k with
  | true=>
   rw[bE,ul h,a4,a4];refine⟨Nat.succ_le_succ ih.1,λa x hx=>?_⟩
   cases a with
   | zero=>simp only[bt,Option.some.injEq] at hx;subst hx;exact⟨λ_=>Nat.succ_pos _,λ_=>h⟩
   | succ a=>simp only[bs] at hx;rw[ih.2 a x hx];exact⟨Nat.succ_lt_succ,Nat.lt_of_succ_lt_succ⟩
  | false=>
   rw[bE,un (by rw[h];decide),bk];refine⟨b2 _,λa x hx=>⟨λhh=>?_,λhh=>t8 hh (Nat.not_lt_zero _)⟩⟩;exfalso
   cases a with
   | zero=>simp only[bt,Option.some.injEq] at hx;subst hx;rw[h] at hh;cases hh
   | succ a=>
    simp only[bs] at hx;have:=jx (hlt _ (List.mem_map_of_mem (List.mem_of_getElem? hx))) hh;rw[h] at this;cases this
def rA(l:List aH)(k:List Nat):Nat:=(l.takeWhile λx=>gJ (aH.name x) k).length
def dg(l:List aH)(x:aH):List aH:=if eX l (aH.name x) (rA l (aH.name x))=true then l.set (rA l (aH.name x)) x else l.take (rA l (aH.name x))++x::l.drop (rA l (aH.name x))
def Mo{l:List aH}(ho:kS (l.map aH.name)=true)(k:List Nat):BB l k (rA l k):=
 ⟨(qW aH.name ho k).1,(qW aH.name ho k).2⟩
def xE(y:aH)(k:List Nat){g:FuncId}{cap:List SV}(hcap:cr cap=true)(hk:PC Tryz.prog g ([.ag (ah y)]++cap) (·=ae (aH.name y))):PC Tryz.prog 128 [.ag (ah y),ae k,.ip [.fn g [] cap]] (·=ab (rO (aH.name y) k)):=by
 refine pB 11 Tryz.func128 ?_;have hkc:=λo:Nat=>bI (o:=o) (bH y);have hxl:(ah y).length=14:=rfl;have hxt:(ah y).take 14=ah y:=rfl;refine aC hkc ?_;refine gG (n2 hxl hxt) ?_;refine zK hk ?_ (hwk:=bp.refl (jc (by simp only[cr,lB,bH];rfl) hcap));refine zQ ?_;refine zK (sd (aH.name y) k) ?_;refine zR ?_;exact zo [.tmp 5]
set_option maxHeartbeats 1000000 in
def EE(l:List aH)(hlen:l.length<=100000)(x:aH){g:FuncId}{cap:List SV}(hcap:cr cap=true)(hk:∀y,PC Tryz.prog g ([.ag (ah y)]++cap) (·=ae (aH.name y)))(ho:kS (l.map aH.name)=true):
 PC Tryz.prog 84 [ak 14 l ah,.ag (ah x),.fn g [] cap] (·=ak 14 (Proofs.dg l x) ah):=by
 refine pB 32 Tryz.func84 ?_;have hkc:=λo:Nat=>bI (o:=o) (bH x);have hkl:=λo:Nat=>aZ (enc:=ah) bH o l;have hkp:=λo:Nat=>bI (o:=o) hcap;have hxl:(ah x).length=14:=rfl;have hxt:(ah x).take 14=ah x:=rfl;have hon:(ah x).all ec=true:=rfl;have hnk:∀o:Nat,bf o (.fn g [] cap)=.fn g [] cap:=λo=>vw (by rw[lB,hcap];rfl);have hnc:∀o:Nat,gh o cap=false:=λo=>dm hcap;have hnx:∀o:Nat,gh o (ah x)=false:=λo=>dm (bH x)
 have hgf:cr [SV.fn g [] cap]=true:=by rw[cr,lB,hcap];rfl
 have hbl:∀B:Nat,fq B (l.flatMap ah)=true:=λB=>bC (aB bH l);have hrl:∀r:Nat->Nat,kh r (l.flatMap ah)=l.flatMap ah:=λr=>aY (aB bH l);have hbc:∀B:Nat,fq B (ah x)=true:=λB=>bC (bH x);have hrc:∀r:Nat->Nat,kh r (ah x)=ah x:=λr=>aY (bH x);have hbq:∀(B:Nat) (q:List aH),fq B (q.flatMap ah)=true:=λB q=>bC (aB bH q);have hrq:∀(r:Nat->Nat) (q:List aH),kh r (q.flatMap ah)=q.flatMap ah:=λr q=>aY (aB bH q);have hpart:=Mo ho (aH.name x);have hbs:=G1 l hlen (g:=128) (cap:=[.ip [.fn g [] cap]]) rfl (aH.name x) _ (λy _=>xE y (aH.name x) hcap (hk y)) hpart;generalize hpos:rA l (aH.name x)=pos at hpart hbs
 have hput:Proofs.dg l x=if eX l (aH.name x) pos=true then l.set pos x else l.take pos++x::l.drop pos:=by rw[Proofs.dg,hpos]
 refine aC (n4 hkc hnk hnc hnx) ?_;refine gG (n2 hxl hxt) ?_;refine zK (hk x) ?_ (hwk:=bp.refl (jc (by simp only[cr,lB,bH];rfl) hcap));refine zQ ?_;refine zK hbs ?_ (hwk:=.cons (.sl _ _ _) (.cons (.a _) (.cons (.fn .nil (.cons (.ptr rfl (bp.refl hgf) (b2 _)) .nil)) .nil)));refine zR ?_;refine zC ?_;by_cases hne:l=[]
 ·subst hne
  have hf0:eX [] (aH.name x) pos=false:=by unfold eX;rw[b0]
  have hp0:pos=0:=Nat.le_zero.1 hpart.le;rw[hf0] at hput ⊢;subst hp0;refine zS [] (n4 hkc hnk hnc hnx) xz ?_;refine zR ?_;refine H2 ?_;refine gG (n6 hxl hxt hkc hnk hnc hnx) ?_;refine zS [2] (n4 hkc hnk hnc hnx) (Bq x) ?_;refine zR ?_;exact zo [.tmp 6] (r:=ak 14 [x] ah) (hw:=zv) (hq:=by rw[hput];rfl)
 have hs:0<l.length:=bN (λe=>hne (List.length_eq_zero_iff.1 e));refine zS [] (n7 hkc hnk hnc hnx hkl hbl hrl) (pU l (by omega) hne) ?_;refine zR ?_;refine zV ?_;cases hfd:eX l (aH.name x) pos
 ·rw[hfd,un (by decide)] at hput;refine zN ?_;refine gG (n7 hxl hxt hkc hnk hnc hnx hkl) ?_;refine aI.sk [3,4] (by rfl) rfl rfl (by rfl) rfl zc (Ek l pos x hpart.le hs hlen) (by simp only[ef,bg,ak,↓reduceIte,ax,aR,a7,a0,ay,aS,hkc,hnk,hnc,hnx,hkl,hbl,hrl,hrc,hbc,hrq,hbq];first | done | rfl) rfl (by decide) (by simp only[sD,ef,bg,ak,hkc,hnk,hnc,hnx,hkl,hbl,hrl,hrc,hbc,hrq,hbq]<;>(repeat' apply And.intro)<;>first | trivial | rfl | (intro hh;cases hh)) (by simp only[xw,ef,bg,ak,aR,aS,decide_true,hkc,hnk,hnc,hnx,hkl,hbl,hrl,hrc,hbc,hrq,hbq];first | done | rfl) (by simp only[xw,ef,bg,ak,aR,aS,decide_true,hkc,hnk,hnc,hnx,hkl,hbl,hrl,hrc,hbc,hrq,hbq];first | done | rfl) (by simp only[ef,bg,ak,↓reduceIte,ax,aR,a7,a0,ay,aS,hkc,hnk,hnc,hnx,hkl,hbl,hrl,hrc,hbc,hrq,hbq];first | done | rfl) (by simp only[ef,bg,ak,↓reduceIte,ax,aR,a7,a0,ay,aS,hkc,hnk,hnc,hnx,hkl,hbl,hrl,hrc,hbc,hrq,hbq,dJ,dB,bQ,bf,bP];first | done | rfl) (by simp only[ef,bg,ak,↓reduceIte,ax,aR,a7,a0,ay,aS,hkc,hnk,hnc,hnx,hkl,hbl,hrl,hrc,hbc,hrq,hbq,dJ,dB,bQ,bf,bP];first | done | rfl) ?_;refine zR ?_;exact zo [.tmp 6] (r:=ak 14 (l.take pos++x::l.drop pos) ah) (hw:=zv) (hq:=by rw[hput])
 ·rw[hfd,ul rfl] at hput;refine zY ?_
  have hlt:pos<l.length:=by
   apply Decidable.byContradiction;intro hn;unfold eX at hfd;rw[bw (by omega)] at hfd;cases hfd
  have hcl:(l.flatMap ah).length=l.length*14:=aJ (enc:=ah) (e:=14) (λ_=>rfl) l;have hst:=gB (enc:=ah) (e:=14) (λ_=>rfl) x hlt;refine aC (n7 hlt hxl hxt hcl (show pos*14+14<=l.length*14 by omega) hon hst) ?_;refine zV ?_;have hsl:(l.set pos x).length=l.length:=b4;exact zo [.tmp 6] (r:=.sl l.length 14 ((l.set pos x).flatMap ah)) (hw:=.buf rfl (by rw[<-hsl,cV (enc:=ah) (e:=14) (λ_=>rfl)];exact bp.refl (aB bH _)) (by rw[aJ (enc:=ah) (e:=14) (λ_=>rfl),hsl];exact al _)) (hq:=by rw[hput,ak,hsl])
def rB(l:List bO)(k:List Nat):Nat:=(l.takeWhile λx=>gJ (bO.key x) k).length
def mf(l:List bO)(x:bO):List bO:=if fH l (bO.key x) (rB l (bO.key x))=true then l.set (rB l (bO.key x)) x else l.take (rB l (bO.key x))++x::l.drop (rB l (bO.key x))
def Mp{l:List bO}(ho:kS (l.map bO.key)=true)(k:List Nat):BC l k (rB l k):=
 ⟨(qW bO.key ho k).1,(qW bO.key ho k).2⟩
def xF(y:bO)(k:List Nat){g:FuncId}{cap:List SV}(hcap:cr cap=true)(hk:PC Tryz.prog g ([.ag (au y)]++cap) (·=ae (bO.key y))):PC Tryz.prog 136 [.ag (au y),ae k,.ip [.fn g [] cap]] (·=ab (rO (bO.key y) k)):=by
 refine pB 11 Tryz.func136 ?_;have hkc:=λo:Nat=>bI (o:=o) (bY y);have hxl:(au y).length=2:=rfl;have hxt:(au y).take 2=au y:=rfl;refine aC hkc ?_;refine gG (n2 hxl hxt) ?_;refine zK hk ?_ (hwk:=bp.refl (jc (by simp only[cr,lB,bY];rfl) hcap));refine zQ ?_;refine zK (sd (bO.key y) k) ?_;refine zR ?_;exact zo [.tmp 5]
set_option maxHeartbeats 1000000 in
def EF(l:List bO)(hlen:l.length<=100000)(x:bO){g:FuncId}{cap:List SV}(hcap:cr cap=true)(hk:∀y,PC Tryz.prog g ([.ag (au y)]++cap) (·=ae (bO.key y)))(ho:kS (l.map bO.key)=true):
 PC Tryz.prog 93 [ak 2 l au,.ag (au x),.fn g [] cap] (·=ak 2 (Proofs.mf l x) au):=by
 refine pB 32 Tryz.func93 ?_;have hkc:=λo:Nat=>bI (o:=o) (bY x);have hkl:=λo:Nat=>aZ (enc:=au) bY o l;have hkp:=λo:Nat=>bI (o:=o) hcap;have hxl:(au x).length=2:=rfl;have hxt:(au x).take 2=au x:=rfl;have hon:(au x).all ec=true:=rfl;have hnk:∀o:Nat,bf o (.fn g [] cap)=.fn g [] cap:=λo=>vw (by rw[lB,hcap];rfl);have hnc:∀o:Nat,gh o cap=false:=λo=>dm hcap;have hnx:∀o:Nat,gh o (au x)=false:=λo=>dm (bY x)
 have hgf:cr [SV.fn g [] cap]=true:=by rw[cr,lB,hcap];rfl
 have hbl:∀B:Nat,fq B (l.flatMap au)=true:=λB=>bC (aB bY l);have hrl:∀r:Nat->Nat,kh r (l.flatMap au)=l.flatMap au:=λr=>aY (aB bY l);have hbc:∀B:Nat,fq B (au x)=true:=λB=>bC (bY x);have hrc:∀r:Nat->Nat,kh r (au x)=au x:=λr=>aY (bY x);have hbq:∀(B:Nat) (q:List bO),fq B (q.flatMap au)=true:=λB q=>bC (aB bY q);have hrq:∀(r:Nat->Nat) (q:List bO),kh r (q.flatMap au)=q.flatMap au:=λr q=>aY (aB bY q);have hpart:=Mp ho (bO.key x);have hbs:=G2 l hlen (g:=136) (cap:=[.ip [.fn g [] cap]]) rfl (bO.key x) _ (λy _=>xF y (bO.key x) hcap (hk y)) hpart;generalize hpos:rB l (bO.key x)=pos at hpart hbs
 have hput:Proofs.mf l x=if fH l (bO.key x) pos=true then l.set pos x else l.take pos++x::l.drop pos:=by rw[Proofs.mf,hpos]
 refine aC (n4 hkc hnk hnc hnx) ?_;refine gG (n2 hxl hxt) ?_;refine zK (hk x) ?_ (hwk:=bp.refl (jc (by simp only[cr,lB,bY];rfl) hcap));refine zQ ?_;refine zK hbs ?_ (hwk:=.cons (.sl _ _ _) (.cons (.a _) (.cons (.fn .nil (.cons (.ptr rfl (bp.refl hgf) (b2 _)) .nil)) .nil)));refine zR ?_;refine zC ?_;by_cases hne:l=[]
 ·subst hne
  have hf0:fH [] (bO.key x) pos=false:=by unfold fH;rw[b0]
  have hp0:pos=0:=Nat.le_zero.1 hpart.le;rw[hf0] at hput ⊢;subst hp0;refine zS [] (n4 hkc hnk hnc hnx) xB ?_;refine zR ?_;refine H2 ?_;refine gG (n6 hxl hxt hkc hnk hnc hnx) ?_;refine zS [2] (n4 hkc hnk hnc hnx) (Br x) ?_;refine zR ?_;exact zo [.tmp 6] (r:=ak 2 [x] au) (hw:=zv) (hq:=by rw[hput];rfl)
 have hs:0<l.length:=bN (λe=>hne (List.length_eq_zero_iff.1 e));refine zS [] (n7 hkc hnk hnc hnx hkl hbl hrl) (xC l (by omega) hne) ?_;refine zR ?_;refine zV ?_;cases hfd:fH l (bO.key x) pos
 ·rw[hfd,un (by decide)] at hput;refine zN ?_;refine gG (n7 hxl hxt hkc hnk hnc hnx hkl) ?_;refine aI.sk [3,4] (by rfl) rfl rfl (by rfl) rfl zc (El l pos x hpart.le hs hlen) (by simp only[ef,bg,ak,↓reduceIte,ax,aR,a7,a0,ay,aS,hkc,hnk,hnc,hnx,hkl,hbl,hrl,hrc,hbc,hrq,hbq];first | done | rfl) rfl (by decide) (by simp only[sD,ef,bg,ak,hkc,hnk,hnc,hnx,hkl,hbl,hrl,hrc,hbc,hrq,hbq]<;>(repeat' apply And.intro)<;>first | trivial | rfl | (intro hh;cases hh)) (by simp only[xw,ef,bg,ak,aR,aS,decide_true,hkc,hnk,hnc,hnx,hkl,hbl,hrl,hrc,hbc,hrq,hbq];first | done | rfl) (by simp only[xw,ef,bg,ak,aR,aS,decide_true,hkc,hnk,hnc,hnx,hkl,hbl,hrl,hrc,hbc,hrq,hbq];first | done | rfl) (by simp only[ef,bg,ak,↓reduceIte,ax,aR,a7,a0,ay,aS,hkc,hnk,hnc,hnx,hkl,hbl,hrl,hrc,hbc,hrq,hbq];first | done | rfl) (by simp only[ef,bg,ak,↓reduceIte,ax,aR,a7,a0,ay,aS,hkc,hnk,hnc,hnx,hkl,hbl,hrl,hrc,hbc,hrq,hbq,dJ,dB,bQ,bf,bP];first | done | rfl) (by simp only[ef,bg,ak,↓reduceIte,ax,aR,a7,a0,ay,aS,hkc,hnk,hnc,hnx,hkl,hbl,hrl,hrc,hbc,hrq,hbq,dJ,dB,bQ,bf,bP];first | done | rfl) ?_;refine zR ?_;exact zo [.tmp 6] (r:=ak 2 (l.take pos++x::l.drop pos) au) (hw:=zv) (hq:=by rw[hput])
 ·rw[hfd,ul rfl] at hput;refine zY ?_
  have hlt:pos<l.length:=by
   apply Decidable.byContradiction;intro hn;unfold fH at hfd;rw[bw (by omega)] at hfd;cases hfd
  have hcl:(l.flatMap au).length=l.length*2:=aJ (enc:=au) (e:=2) (λ_=>rfl) l;have hst:=gB (enc:=au) (e:=2) (λ_=>rfl) x hlt;refine aC (n7 hlt hxl hxt hcl (show pos*2+2<=l.length*2 by omega) hon hst) ?_;refine zV ?_;have hsl:(l.set pos x).length=l.length:=b4;exact zo [.tmp 6] (r:=.sl l.length 2 ((l.set pos x).flatMap au)) (hw:=.buf rfl (by rw[<-hsl,cV (enc:=au) (e:=2) (λ_=>rfl)];exact bp.refl (aB bY _)) (by rw[aJ (enc:=au) (e:=2) (λ_=>rfl),hsl];exact al _)) (hq:=by rw[hput,ak,hsl])
end Go.Proofs
