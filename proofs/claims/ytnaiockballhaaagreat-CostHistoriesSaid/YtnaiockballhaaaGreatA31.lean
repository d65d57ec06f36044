/- A part of the texts of this claim: every theorem says what it proves, with its conditions. -/
import Derived.Test.YtnaiockballhaaaGreatA30
import Derived.Test.YtnaiockballhaaaGreatA23
import Derived.Test.YtnaiockballhaaaGreatA19
set_option linter.unusedSimpArgs false
set_option linter.unusedVariables false
set_option linter.unusedSectionVars false
open List (length_append length_drop length_take take_append_of_le_length take_of_length_le append_assoc append_nil flatMap_cons flatMap_append length_cons take_take drop_length drop_of_length_le flatMap_nil map_append mem_of_getElem? take_length length_nil map_cons)
open Nat (le_refl min_eq_left min_def sub_zero reduceAdd reduceEqDiff reduceLT reduceLeDiff reduceMul)
open Option (bind_some map_some)
namespace Go.Proofs
open Go.Ev
set_option maxRecDepth 100000
theorem yB{i j:Nat}(h:i+j<=1000000):lO Tryz.prog 3 222 (.int .i64 ((i:Int)+(j:Int)))=some (.int .u64 ((i+j:Nat):Int)):=by
 unfold lO;rw[show Tryz.prog.underlying 3=some (.int .i64) by kernel_rfl,show Tryz.prog.underlying 222=some (.int .u64) by kernel_rfl]
 have:dH .u64 ((i:Int)+(j:Int))=((i+j:Nat):Int):=by rw[gL];simp[IntKind.wrap,IntKind.bits,IntKind.signed];omega
 simp only[this]
theorem yC{s:Nat}:cM Tryz.prog .shr 222 (.int .u64 (s:Int)) (.int .u64 1)=some (.int .u64 ((s/2:Nat):Int)):=by
 have:((s:Int)).fdiv 2=((s/2:Nat):Int):=by
  rw[Int.fdiv_eq_ediv_of_nonneg _ (by decide)];omega
 show some (AV.int .u64 (((s:Int)).fdiv 2))=_;rw[this]
theorem yD{s:Nat}(h:s<=1000000):lO Tryz.prog 222 3 (.int .u64 (s:Int))=some (.int .i64 (s:Int)):=by
 unfold lO;rw[show Tryz.prog.underlying 3=some (.int .i64) by kernel_rfl,show Tryz.prog.underlying 222=some (.int .u64) by kernel_rfl]
 have:dH .i64 (s:Int)=(s:Int):=by rw[gL];simp[IntKind.wrap,IntKind.bits,IntKind.signed];omega
 simp only[this]
theorem dE(p:aG):ae p=[ak p.name,ak p.kind,ak p.bD,ak p.slot,aa p.made,aa p.since,aA p.eu,an 2 p.props ar,aa p.l1,aa p.l2,aa p.l3,aa p.l4,aa p.l5,aa p.l6]:=rfl
theorem lP(p:bG):ar p=[ak p.key,ak p.value]:=rfl
def eJ(l:List aG)(k:List Nat)(pos:Nat):Bool:=match l[pos]? with
 | some x=>decide (aG.name x=k)
 | none=>false
structure Af (l:List aG) (k:List Nat) (pos:Nat):Prop where
 le:pos<=l.length
 ik:∀(a:Nat) (x:aG),l[a]?=some x->(gk (aG.name x) k=true↔a<pos)
set_option maxHeartbeats 1000000 in
theorem Fj(l:List aG)(hlen:l.length<=100000){g:FuncId}{cap:List SV}(hcap:cr cap=true)(k:List Nat)(pos:Nat)(hp:∀x∈l,PC Tryz.prog g ([.ag (ae x),ak k]++cap) (·=aa (qF (aG.name x) k)))(hpart:Af l k pos):
 PC Tryz.prog 119 [an 14 l ae,ak k,.fn g [] cap] (·=.bI [bX pos,aA (eJ l k pos)]):=by
 obtain⟨hpos,hpt⟩:=hpart;refine pB 49 Tryz.func119 ?_;refine kQ ?_;refine zV ?_
 (repeat refine ai.seq ?_)
 refine ai.block (ai.loop (λm st=>∃i j:Nat,(i<=pos/\pos<=j/\j<=l.length)/\j-i=m/\st=⟨[(0,an 14 l ae),(1,ak k),(2,.fn g [] cap),(8,bX l.length),(9,bX i),(10,bX j)],49,[],[]⟩) l.length zH ⟨0,l.length,⟨Nat.zero_le _,hpos,le_refl _⟩,sub_zero _,rfl⟩ (by rintro m st ⟨i,j,_,_,rfl⟩;rfl) ?_);rintro m st ⟨i,j,⟨hip,hpj,hjl⟩,rfl,rfl⟩;refine zV ?_;by_cases hij:i<j;rotate_left
 ·rw[show decide ((i:Int)<(j:Int))=false by simp only[decide_eq_false_iff_not];omega];refine zN ?_;refine ai.exit ?_
  obtain rfl:i=pos:=by omega
  by_cases hil:i<l.length
  ·obtain⟨x,hx⟩:∃x,l[i]?=some x:=⟨l[i],List.getElem?_eq_getElem hil⟩
   have hl:gk (aG.name x) k=false:=by
    cases h:gk (aG.name x) k with
    | false=>rfl
    | true=>exact absurd ((hpt i x hx).1 h) (Nat.lt_irrefl _)
   have ax:((l.flatMap ae).drop (i*14)).take 14=ae x:=aH (e:=14) (enc:=ae) (λ_=>rfl) hx;have hpx:=hp x (mem_of_getElem? hx)
   have hfd:eJ l k i=decide (aG.name x=k):=by unfold eJ;rw[hx]
   have hc0:decide (qF (aG.name x) k=0)=decide (aG.name x=k):=by
    unfold qF;rw[hl,if_neg (by decide)];by_cases e:aG.name x=k
    ·rw[if_pos e,decide_eq_true e];rfl
    ·rw[if_neg e,decide_eq_false e];rfl
   rw[dE] at ax hpx;refine gl (n3 (show decide ((i:Int)<(l.length:Int))=true by simp only[decide_eq_true_eq];omega) hil ax) ?_;refine zK hpx ?_ (hwk:=bn.refl (iB rfl hcap));refine cS hc0 ?_;refine zE ?_;exact zO [.tmp 6,.tmp 7] (hq:=by (try simp only[aC,ab]);first | done | (rw[hfd]))
  ·have hfd:eJ l k i=false:=by unfold eJ;rw[List.getElem?_eq_none (by omega)]
   refine aE (show decide ((i:Int)<(l.length:Int))=false by simp only[decide_eq_false_iff_not];omega) ?_;refine zE ?_;exact zO [.tmp 6,.tmp 7] (hq:=by (try simp only[aC,ab]);first | done | (rw[hfd]))
 rw[show decide ((i:Int)<(j:Int))=true by simp only[decide_eq_true_eq];omega];obtain⟨h,hh⟩:∃h,h=(i+j)/2:=⟨_,rfl⟩
 have hl2:h<l.length:=by omega
 obtain⟨x,hx⟩:∃x,l[h]?=some x:=⟨l[h],List.getElem?_eq_getElem hl2⟩;have ax:((l.flatMap ae).drop (h*14)).take 14=ae x:=aH (e:=14) (enc:=ae) (λ_=>rfl) hx;have hpx:=hp x (mem_of_getElem? hx);have hpth:=hpt h x hx;rw[dE] at ax hpx;refine zY ?_
 (repeat refine ai.seq ?_)
 refine ai.block ?_;refine zs ?_;refine ai.r0 (by rfl) (gY (n4 (bA (i:Int) (j:Int) (by omega)) (yB (show i+j<=1000000 by omega)) @yC (yD (show(i+j)/2<=1000000 by omega)))) ?_;rw[<-hh];refine gl (n2 hl2 ax) ?_;refine zK hpx ?_ (hwk:=bn.refl (iB rfl hcap))
 have hc:decide (qF (aG.name x) k<0)=gk (aG.name x) k:=by
  unfold qF;cases h:gk (aG.name x) k
  ·rw[if_neg (by decide)];split<;>rfl
  ·rw[if_pos rfl];rfl
 cases hlt:gk (aG.name x) k
 ·have hge:pos<=h:=by
   rcases Nat.lt_or_ge h pos with hq | hq
   ·have:=hpth.2 hq;rw[hlt] at this;cases this
   ·exact hq
  refine cS (n2 hc hlt) ?_;refine gX ?_;exact⟨h-i,_,by omega,zH,i,h,⟨hip,hge,by omega⟩,rfl,rfl⟩
 ·have hgt:h<pos:=hpth.1 hlt;refine cS (n2 hc hlt) ?_;refine zY ?_;refine zs ?_;refine ai.r0 (by rfl) (gY (bA (h:Int) 1 (by omega))) ?_;exact⟨j-(h+1),_,by omega,(Fg.less (nM @cw) (nN @cw)),h+1,j,⟨by omega,hpj,hjl⟩,rfl,rfl⟩
def fj(l:List bG)(k:List Nat)(pos:Nat):Bool:=match l[pos]? with
 | some x=>decide (bG.key x=k)
 | none=>false
structure Ag (l:List bG) (k:List Nat) (pos:Nat):Prop where
 le:pos<=l.length
 ik:∀(a:Nat) (x:bG),l[a]?=some x->(gk (bG.key x) k=true↔a<pos)
set_option maxHeartbeats 1000000 in
theorem Fk(l:List bG)(hlen:l.length<=100000){g:FuncId}{cap:List SV}(hcap:cr cap=true)(k:List Nat)(pos:Nat)(hp:∀x∈l,PC Tryz.prog g ([.ag (ar x),ak k]++cap) (·=aa (qF (bG.key x) k)))(hpart:Ag l k pos):
 PC Tryz.prog 127 [an 2 l ar,ak k,.fn g [] cap] (·=.bI [bX pos,aA (fj l k pos)]):=by
 obtain⟨hpos,hpt⟩:=hpart;refine pB 49 Tryz.func127 ?_;refine kQ ?_;refine zV ?_
 (repeat refine ai.seq ?_)
 refine ai.block (ai.loop (λm st=>∃i j:Nat,(i<=pos/\pos<=j/\j<=l.length)/\j-i=m/\st=⟨[(0,an 2 l ar),(1,ak k),(2,.fn g [] cap),(8,bX l.length),(9,bX i),(10,bX j)],49,[],[]⟩) l.length zH ⟨0,l.length,⟨Nat.zero_le _,hpos,le_refl _⟩,sub_zero _,rfl⟩ (by rintro m st ⟨i,j,_,_,rfl⟩;rfl) ?_);rintro m st ⟨i,j,⟨hip,hpj,hjl⟩,rfl,rfl⟩;refine zV ?_;by_cases hij:i<j;rotate_left
 ·rw[show decide ((i:Int)<(j:Int))=false by simp only[decide_eq_false_iff_not];omega];refine zN ?_;refine ai.exit ?_
  obtain rfl:i=pos:=by omega
  by_cases hil:i<l.length
  ·obtain⟨x,hx⟩:∃x,l[i]?=some x:=⟨l[i],List.getElem?_eq_getElem hil⟩
   have hl:gk (bG.key x) k=false:=by
    cases h:gk (bG.key x) k with
    | false=>rfl
    | true=>exact absurd ((hpt i x hx).1 h) (Nat.lt_irrefl _)
   have ax:((l.flatMap ar).drop (i*2)).take 2=ar x:=aH (e:=2) (enc:=ar) (λ_=>rfl) hx;have hpx:=hp x (mem_of_getElem? hx)
   have hfd:fj l k i=decide (bG.key x=k):=by unfold fj;rw[hx]
   have hc0:decide (qF (bG.key x) k=0)=decide (bG.key x=k):=by
    unfold qF;rw[hl,if_neg (by decide)];by_cases e:bG.key x=k
    ·rw[if_pos e,decide_eq_true e];rfl
    ·rw[if_neg e,decide_eq_false e];rfl
   rw[lP] at ax hpx;refine gl (n3 (show decide ((i:Int)<(l.length:Int))=true by simp only[decide_eq_true_eq];omega) hil ax) ?_;refine zK hpx ?_ (hwk:=bn.refl (iB rfl hcap));refine cS hc0 ?_;refine zE ?_;exact zO [.tmp 6,.tmp 7] (hq:=by (try simp only[aC,ab]);first | done | (rw[hfd]))
  ·have hfd:fj l k i=false:=by unfold fj;rw[List.getElem?_eq_none (by omega)]
   refine aE (show decide ((i:Int)<(l.length:Int))=false by simp only[decide_eq_false_iff_not];omega) ?_;refine zE ?_;exact zO [.tmp 6,.tmp 7] (hq:=by (try simp only[aC,ab]);first | done | (rw[hfd]))
 rw[show decide ((i:Int)<(j:Int))=true by simp only[decide_eq_true_eq];omega];obtain⟨h,hh⟩:∃h,h=(i+j)/2:=⟨_,rfl⟩
 have hl2:h<l.length:=by omega
 obtain⟨x,hx⟩:∃x,l[h]?=some x:=⟨l[h],List.getElem?_eq_getElem hl2⟩;have ax:((l.flatMap ar).drop (h*2)).take 2=ar x:=aH (e:=2) (enc:=ar) (λ_=>rfl) hx;have hpx:=hp x (mem_of_getElem? hx);have hpth:=hpt h x hx;rw[lP] at ax hpx;refine zY ?_
 (repeat refine ai.seq ?_)
 refine ai.block ?_;refine zs ?_;refine ai.r0 (by rfl) (gY (n4 (bA (i:Int) (j:Int) (by omega)) (yB (show i+j<=1000000 by omega)) @yC (yD (show(i+j)/2<=1000000 by omega)))) ?_;rw[<-hh];refine gl (n2 hl2 ax) ?_;refine zK hpx ?_ (hwk:=bn.refl (iB rfl hcap))
 have hc:decide (qF (bG.key x) k<0)=gk (bG.key x) k:=by
  unfold qF;cases h:gk (bG.key x) k
  ·rw[if_neg (by decide)];split<;>rfl
  ·rw[if_pos rfl];rfl
 cases hlt:gk (bG.key x) k
 ·have hge:pos<=h:=by
   rcases Nat.lt_or_ge h pos with hq | hq
   ·have:=hpth.2 hq;rw[hlt] at this;cases this
   ·exact hq
  refine cS (n2 hc hlt) ?_;refine gX ?_;exact⟨h-i,_,by omega,zH,i,h,⟨hip,hge,by omega⟩,rfl,rfl⟩
 ·have hgt:h<pos:=hpth.1 hlt;refine cS (n2 hc hlt) ?_;refine zY ?_;refine zs ?_;refine ai.r0 (by rfl) (gY (bA (h:Int) 1 (by omega))) ?_;exact⟨j-(h+1),_,by omega,(cI @cw),h+1,j,⟨by omega,hpj,hjl⟩,rfl,rfl⟩
open Go.Ev Go.Lib
theorem Cm(Z:List AV):∀m,(rep Z m).length=m*Z.length
 | 0=>by rw[rep,length_nil,Nat.zero_mul]
 | m+1=>by rw[rep,length_append,Cm Z m,Nat.succ_mul,Nat.add_comm]
theorem x6{Z:List AV}(hZ:Z.all j7=true):∀m,(rep Z m).all j7=true
 | 0=>rfl
 | m+1=>by rw[rep,List.all_append,hZ,x6 hZ m];rfl
theorem xQ:∀{l:List AV},l.all j7=true->(l.map SV.a).all dU=true
 | [],_=>rfl
 | a::l,h=>by
  rw[List.all_cons,Bool.and_eq_true] at h;rw[map_cons,List.all_cons,xQ h.2,Bool.and_true];exact h.1
theorem xP(o:Nat):∀l:List AV,(l.map SV.a).map (bf o)=l.map SV.a
 | []=>rfl
 | a::l=>by rw[map_cons,map_cons,xP o l];rfl
theorem CY:BF Tryz.prog 158:=by
 intro w a b la ca lb cb tA tB kA kB h1 h2 h3 h4 h5 h6
 rw[run_callFunc_extern Tryz.func158 (by kernel_rfl) (by kernel_rfl) (by kernel_rfl) (e:=Extern.SlicesOverlaps.overlaps #[53,53] #[4]) (by kernel_rfl),
  Lib.run_overlaps_apart w 53 4 116 (by kernel_rfl) 14 (λw=>bT (by kernel_rfl)) a b la ca lb cb h1 tA tB kA kB h2 h3 h4 h5 h6]
 rfl
set_option maxHeartbeats 1000000 in
theorem zU(x:aG):SC Tryz.prog 122 [.e0 14,bX 0,.buf 0 1 14 (some 1)] [.cells (ae x)] [0] (λr S'=>r=an 14 [x] ae/\S'=[.gone]):=by
 refine Gk 95 Tryz.func122 ?_;have hkc:=λo:Nat=>bK (o:=o) (bz x);have hon:(ae x).all dU=true:=rfl;rw[dE] at hkc hon ⊢;refine kQ ?_;refine kQ ?_;refine gX ?_;refine wy ?_;refine aE (n2 hkc hon) ?_;refine ai.fg (st':=⟨[(6,.buf 1 1 14 none)],95,[.gone,.cells (ae x)],[]⟩) (cI @dE) ?_;refine ai.fg (Fg.freeze (f':=[(6,an 14 [x] ae)]) 1 rfl (λh=>by cases h) ⟨.inr (.buf rfl (by rw[flatMap_cons,flatMap_nil,append_nil];exact bn.refl (bz x)) (by show 1*14<=14;decide)),trivial⟩) ?_;refine ai.fg (st':=⟨[(6,an 14 [x] ae)],95,[.gone],[]⟩) zH ?_;refine zE ?_;exact zP [.tmp 6]
theorem Nw(l:List aG)(i:Nat)(x:aG)(hi:i<l.length)(A:List SV):
 (((l.flatMap ae++A).take ((i+1)*14)++((l.drop i).flatMap ae++(l.flatMap ae++A).drop ((i+1)*14+(l.length-i)*14))).take (i*14)++(ae x++((l.flatMap ae++A).take ((i+1)*14)++((l.drop i).flatMap ae++(l.flatMap ae++A).drop ((i+1)*14+(l.length-i)*14))).drop (i*14+14))).take ((l.length+1)*14)=(l.take i++x::l.drop i).flatMap ae:=by
 have hf:∀l:List aG,(l.flatMap ae).length=l.length*14:=aJ (enc:=ae) (e:=14) (λ_=>rfl)
 have h1:((l.flatMap ae++A).take ((i+1)*14)).length=(i+1)*14:=by
  rw[length_take,length_append,hf];omega
 have h2:((l.flatMap ae++A).take ((i+1)*14)).take (i*14)=(l.take i).flatMap ae:=by
  rw[take_take,min_eq_left (by omega),take_append_of_le_length (by rw[hf];omega),gA (enc:=ae) (e:=14) (λ_=>rfl)]
 generalize hB:(l.flatMap ae++A).take ((i+1)*14)=B at h1 h2 ⊢;generalize (l.flatMap ae++A).drop ((i+1)*14+(l.length-i)*14)=R
 have e1:(B++((l.drop i).flatMap ae++R)).take (i*14)=(l.take i).flatMap ae:=by rw[take_append_of_le_length (by rw[h1];omega),h2]
 have e2:(B++((l.drop i).flatMap ae++R)).drop (i*14+14)=(l.drop i).flatMap ae++R:=by rw[List.drop_append_of_le_length (by rw[h1];omega),drop_of_length_le (by rw[h1];omega),List.nil_append]
 rw[e1,e2]
 have h3:((l.take i).flatMap ae++(ae x++(l.drop i).flatMap ae)).length=(l.length+1)*14:=by
  rw[length_append,length_append,hf,hf,show(ae x).length=14 from rfl,length_take,length_drop,min_eq_left (by omega)];omega
 rw[<-append_assoc (ae x),<-append_assoc,take_append_of_le_length (by rw[h3];exact le_refl _),take_of_length_le (by rw[h3];exact le_refl _),flatMap_append,flatMap_cons]
set_option maxHeartbeats 1000000 in
theorem CJ(l:List aG)(i:Nat)(x:aG)(hi:i<=l.length)(hne:0<l.length)(hlen:l.length<=100000):SC Tryz.prog 122 [.buf 0 l.length 14 none,bX i,.buf 1 1 14 (some 1)] [.cells (l.flatMap ae),.cells (ae x)] [0,1] (λr S'=>r=an 14 (l.take i++x::l.drop i) ae/\S'=[.gone,.gone]):=by
 refine PQ 95 Tryz.func122 ?_;have hkl:=λo:Nat=>aW (enc:=ae) bz o l;have hkc:=λo:Nat=>bK (o:=o) (bz x);have hon:(ae x).all dU=true:=rfl;have hxl:(ae x).length=14:=rfl;have hxt:(ae x).take 14=ae x:=rfl;have hcl:(l.flatMap ae).length=l.length*14:=aJ (enc:=ae) (e:=14) (λ_=>rfl) l;have htl:(l.flatMap ae).take (l.length*14)=l.flatMap ae:=take_of_length_le (by rw[hcl];exact le_refl _);have hc1:((1:Nat):Int)=1:=rfl;refine zV ?_;refine aE (DA hi) ?_;refine aE hc1 ?_;refine aE hc1 ?_;refine gX ?_;by_cases hin:i=l.length
 ·subst hin;refine aE (show decide ((l.length:Int)=(l.length:Int))=true by simp) ?_;refine zY ?_
  have hka:∀o:Nat,(l.flatMap ae++ae x).map (bf o)=l.flatMap ae++ae x:=λo=>by rw[map_append,hkl,hkc]
  refine aE (n9 hkc hon hxl hxt hcl htl hka @le_refl (show l.length<=1000000 by omega)) ?_;refine ai.fg (st':=⟨[(6,.buf 0 (l.length+1) 14 none)],95,[.cells (l.flatMap ae++ae x),.gone],[]⟩) zH ?_
  have hq:l.flatMap ae++ae x=(l.take l.length++x::l.drop l.length).flatMap ae:=by rw[take_length,drop_length,flatMap_append,flatMap_cons,flatMap_nil,append_nil]
  have hqn:(l.take l.length++x::l.drop l.length).length=l.length+1:=by rw[take_length,drop_length,length_append,length_cons,length_nil]
  rw[hq];refine ai.fg (Fg.freeze (f':=[(6,an 14 (l.take l.length++x::l.drop l.length) ae)]) 0 rfl (λh=>by cases h) ⟨.inr (by rw[mc,hqn];exact .buf rfl (by rw[<-hqn,cu (enc:=ae) (e:=14) (λ_=>rfl)];exact bn.refl (aB bz _)) (by rw[aJ (enc:=ae) (e:=14) (λ_=>rfl),hqn];exact le_refl _)),trivial⟩) ?_;refine zE ?_;exact zP [.tmp 6]
 have hlt:i<l.length:=by omega
 refine aE (show decide ((i:Int)=(l.length:Int))=false by simp only[decide_eq_false_iff_not];omega) ?_;refine zN ?_;refine ai.Cn 0 (by decide) rfl rfl ?_;intro cap hcap;obtain⟨A,hA⟩:∃A,A=List.replicate (cap*14-(l.flatMap ae).length) SV.any:=⟨_,rfl⟩;rw[<-hA]
 have hAl:A.length=cap*14-l.length*14:=by rw[hA,List.length_replicate,hcl]
 by_cases hroom:cap<l.length+1
 ·obtain rfl:cap=l.length:=by omega
  obtain rfl:A=[]:=List.length_eq_zero_iff.1 (by rw[hAl];omega);rw[append_nil];clear hA hAl;refine aE (n3 hc1 (nh (show -9223372036854775808<=(l.length:Int)+1/\(l.length:Int)+1<=9223372036854775807 from⟨by omega,by omega⟩)) (show decide ((l.length:Int)<(l.length:Int)+1)=true by simp only[decide_eq_true_eq];omega)) ?_;refine zY ?_;obtain⟨m,hm⟩:∃m,m=l.length+1-i:=⟨_,rfl⟩;obtain⟨R,hR⟩:∃R,R=(rep [.str [],.str [],.str [],.str [],.int .i64 0,.int .i64 0,.bool false,.slice none 0 0 (some 0),.int .i64 0,.int .i64 0,.int .i64 0,.int .i64 0,.int .i64 0,.int .i64 0] m).map SV.a:=⟨_,rfl⟩
  have hRl:R.length=m*14:=by rw[hR,List.length_map,Cm];rfl
  have hRo:R.all dU=true:=by rw[hR];exact xQ (x6 rfl m)
  have hRk:∀o:Nat,R.map (bf o)=R:=λo=>by rw[hR];exact xP o _
  obtain⟨c1,hc1e⟩:∃c1,c1=(l.flatMap ae).take (i*14)++R:=⟨_,rfl⟩
  have hc1l:c1.length=(l.length+1)*14:=by rw[hc1e,length_append,length_take,hcl,hRl,min_eq_left (by omega),hm];omega
  have hc1k:∀o:Nat,c1.map (bf o)=c1:=λo=>by rw[hc1e,map_append,hRk,List.map_take,hkl]
  refine zs ?_;refine ai.r0 (by rfl) (by simp only[bx,aX,an,aw,bind_some,map_some,↓reduceIte,reduceEqDiff,reduceAdd,reduceMul,reduceLeDiff,reduceLT,ah,ao,aP,hc1,rR hi,bA (l.length:Int) 1 (by omega),bS ((l.length:Int)+1) (i:Int) (by omega),show((l.length:Int)+1-(i:Int))=(m:Int) by omega,<-hR,hRo,sub_zero,show m<=1000000 by omega,show ¬m=0 by omega,show i<=1000000 by omega,hcl,show i*14<=l.length*14 by omega,show l.length<l.length+1 by omega,show i+m=l.length+1 by omega,<-hc1e,hc1k,hkl,hkc];first | done | rfl) ?_;obtain⟨c2,hc2e⟩:∃c2,c2=c1.take (i*14)++(ae x++c1.drop (i*14+14)):=⟨_,rfl⟩
  have hc2l:c2.length=(l.length+1)*14:=by rw[hc2e,length_append,length_append,length_take,length_drop,hc1l,hxl];omega
  refine aE (n8 (DA (show i<=l.length+1 by omega)) hxl hxt (show Nat.min 1 (l.length+1-i)=1 by simp only[min_def];rw[if_pos (by omega)]) hc1l (show i*14+14<=(l.length+1)*14 by omega) hon (Eq.symm hc2e)) ?_
  have hdr:((l.flatMap ae).drop (i*14)).take ((l.length-i)*14)=(l.drop i).flatMap ae:=by
   rw[jV (enc:=ae) (e:=14) (λ_=>rfl),take_of_length_le];rw[aJ (enc:=ae) (e:=14) (λ_=>rfl),length_drop];exact le_refl _
  have hdl:((l.drop i).flatMap ae).length=(l.length-i)*14:=by rw[aJ (enc:=ae) (e:=14) (λ_=>rfl),length_drop]
  have hdt:((l.drop i).flatMap ae).take ((l.length-i)*14)=(l.drop i).flatMap ae:=take_of_length_le (by rw[hdl];exact le_refl _);have hdo:((l.drop i).flatMap ae).all dU=true:=uw (l.drop i);obtain⟨c3,hc3e⟩:∃c3,c3=c2.take ((i+1)*14)++((l.drop i).flatMap ae++c2.drop ((i+1)*14+(l.length-i)*14)):=⟨_,rfl⟩
  have hfin:c3=(l.take i++x::l.drop i).flatMap ae:=by
   have e0:c1.take (i*14)=(l.take i).flatMap ae:=by
    rw[hc1e,take_append_of_le_length (by rw[length_take,hcl];omega),take_take,Nat.min_self,gA (enc:=ae) (e:=14) (λ_=>rfl)]
   have e1:((l.take i).flatMap ae++ae x).length=(i+1)*14:=by
    rw[length_append,aJ (enc:=ae) (e:=14) (λ_=>rfl),hxl,length_take,min_eq_left hi];omega
   rw[hc3e,show c2.drop ((i+1)*14+(l.length-i)*14)=[] from drop_of_length_le (by rw[hc2l];omega),append_nil,hc2e,e0,<-append_assoc,take_append_of_le_length (by rw[e1];exact le_refl _),take_of_length_le (by rw[e1];exact le_refl _),flatMap_append,flatMap_cons,append_assoc]
  refine zs ?_;refine oW [0,0,0,6,15,0,0,96,255] ?_
  (repeat (first | refine SD.r (by rfl) rfl (by rfl) (by rfl) (gY (n4 (bA (i:Int) 1 (by omega)) (pJ) (DA (show i+1<=l.length+1 by omega)) (DA hi))) ?_ | refine SD.s (by rfl) rfl (by rfl) (by rfl) ?_ | fail))
  refine SD.ed (by rfl) rfl (by rfl) rfl rfl (by rfl) (by simp only[bx,aX,an,aw,bind_some,map_some,↓reduceIte,reduceEqDiff,reduceAdd,reduceMul,reduceLeDiff,reduceLT,ah,ao,aP,hcl,hc2l,show i*14+(l.length-i)*14<=l.length*14 by omega,show Nat.min (l.length-i) (l.length+1-(i+1))=l.length-i by simp only[min_def];split<;>omega,show ¬(l.length-i=0) by omega,show(i+1)*14+(l.length-i)*14<=(l.length+1)*14 by omega,hdr,hdl,hdt,hdo,le_refl,<-hc3e];first | done | rfl) ?_;refine zM ?_;refine zV ?_
  have hqn:(l.take i++x::l.drop i).length=l.length+1:=by rw[length_append,length_cons,length_take,length_drop,min_eq_left hi];omega
  rw[hfin];refine ai.fg (st':=⟨[(6,.buf 2 (l.length+1) 14 none)],95,[.gone,.gone,.cells ((l.take i++x::l.drop i).flatMap ae)],[]⟩) zH ?_;refine ai.fg (Fg.freeze (f':=[(6,an 14 (l.take i++x::l.drop i) ae)]) 2 rfl (λh=>by cases h) ⟨.inr (by rw[mc,hqn];exact .buf rfl (by rw[<-hqn,cu (enc:=ae) (e:=14) (λ_=>rfl)];exact bn.refl (aB bz _)) (by rw[aJ (enc:=ae) (e:=14) (λ_=>rfl),hqn];exact le_refl _)),trivial⟩) ?_;refine ai.fg (st':=⟨[(6,an 14 (l.take i++x::l.drop i) ae)],95,[.gone,.gone],[]⟩) zH ?_;refine zE ?_;exact zP [.tmp 6]
 have hcap2:l.length+1<=cap:=by omega
 have hXl:(l.flatMap ae++A).length=cap*14:=by rw[length_append,hcl,hAl];omega
 have hnn:(-9223372036854775808:Int)<=(l.length:Int)+1/\(l.length:Int)+1<=9223372036854775807:=⟨by omega,by omega⟩;refine aE (n3 hc1 (nh hnn) (show decide ((cap:Int)<(l.length:Int)+1)=false by simp only[decide_eq_false_iff_not];omega)) ?_;refine zN ?_
 have hbt:cF l.length (some cap) none (some (.int .i64 ((l.length+1:Nat):Int))) none=some (0,l.length+1,some cap):=by
  unfold cF mF ny;simp only[kM,bind_some,ek hcap2,Bool.or_true,ah]
 refine zs ?_;refine ai.r0 (by rfl) (gY (n4 hc1 (nh hnn) (pJ) hbt)) ?_;have hii:(-9223372036854775808:Int)<=(i:Int)+1/\(i:Int)+1<=9223372036854775807:=⟨by omega,by omega⟩;refine zs ?_;refine ai.M8 (by rfl) (gY (n5 hc1 (nh hii) (pJ) (DA (show i+1<=l.length+1 by omega)) @sub_zero)) ?_;refine aM.Rf CY (by rfl) rfl rfl (by rfl) rfl zc rfl rfl rfl rfl (by decide) (by decide) (by omega) (by rw[hXl];omega) ?_;refine zR ?_;refine zY ?_
 have hdr:(((l.flatMap ae++A).drop (i*14)).take ((l.length+1-i)*14)).take ((l.length-i)*14)=(l.drop i).flatMap ae:=by
  rw[take_take,min_eq_left (by omega),List.drop_append_of_le_length (by rw[hcl];omega),jV (enc:=ae) (e:=14) (λ_=>rfl),take_append_of_le_length (by rw[aJ (enc:=ae) (e:=14) (λ_=>rfl),length_drop];exact le_refl _),take_of_length_le];rw[aJ (enc:=ae) (e:=14) (λ_=>rfl),length_drop];exact le_refl _
 have hdl:(((l.flatMap ae++A).drop (i*14)).take ((l.length+1-i)*14)).length=(l.length+1-i)*14:=by
  rw[length_take,length_drop,hXl,min_eq_left (by omega)]
 have hdo:((l.drop i).flatMap ae).all dU=true:=uw (l.drop i);obtain⟨w1,hw1⟩:∃w1,w1=(l.flatMap ae++A).take ((i+1)*14)++((l.drop i).flatMap ae++(l.flatMap ae++A).drop ((i+1)*14+(l.length-i)*14)):=⟨_,rfl⟩
 have hw1l:w1.length=cap*14:=by rw[hw1,length_append,length_append,length_take,length_drop,hXl,aJ (enc:=ae) (e:=14) (λ_=>rfl),length_drop,min_eq_left (by omega)];omega
 obtain⟨w2,hw2⟩:∃w2,w2=w1.take (i*14)++(ae x++w1.drop (i*14+14)):=⟨_,rfl⟩
 have hw2l:w2.length=cap*14:=by rw[hw2,length_append,length_append,length_take,length_drop,hw1l,hxl,min_eq_left (by omega)];omega
 have hfin:w2.take ((l.length+1)*14)=(l.take i++x::l.drop i).flatMap ae:=by rw[hw2,hw1];exact Nw l i x hlt A
 refine zs ?_;refine oW [0,0,0,6,15,0,0,96,255] ?_
 (repeat (first | refine SD.r (by rfl) rfl (by rfl) (by rfl) (gY (n5 (nh hii) (pJ) (DA (show i+1<=l.length+1 by omega)) (DA (show i<=l.length+1 by omega)) @sub_zero)) ?_ | refine SD.s (by rfl) rfl (by rfl) (by rfl) ?_ | fail))
 refine SD.ed (by rfl) rfl (by rfl) rfl rfl (by rfl) (by simp only[bx,aX,an,aw,bind_some,map_some,↓reduceIte,reduceEqDiff,reduceAdd,reduceMul,reduceLeDiff,reduceLT,ah,ao,aP,hXl,hcl,show i*14+(l.length+1-i)*14<=cap*14 by omega,show Nat.min (l.length+1-i) (l.length+1-(i+1))=l.length-i by simp only[min_def];split<;>omega,show ¬(l.length-i=0) by omega,show(i+1)*14+(l.length-i)*14<=cap*14 by omega,hdr,hdl,show(l.length-i)*14<=(l.length+1-i)*14 by omega,hdo,le_refl,<-hw1];first | done | rfl) ?_;refine zM ?_;refine aE (n8 (DA (show i<=l.length+1 by omega)) hxl hxt (show Nat.min 1 (l.length+1-i)=1 by simp only[min_def];rw[if_pos (by omega)]) hw1l (show i*14+14<=cap*14 by omega) hon (Eq.symm hw2)) ?_;refine zV ?_
 have hqn:(l.take i++x::l.drop i).length=l.length+1:=by rw[length_append,length_cons,length_take,length_drop,min_eq_left hi];omega
 refine ai.fg (st':=⟨[(6,.buf 0 (l.length+1) 14 (some cap))],95,[.cells w2,.gone],[]⟩) zH ?_;refine ai.fg (Fg.freeze (f':=[(6,an 14 (l.take i++x::l.drop i) ae)]) 0 rfl (λh=>by cases h) ⟨.inr (by rw[mc,hqn];exact .buf rfl (by rw[hfin];exact bn.refl (aB bz _)) (by rw[hw2l];omega)),trivial⟩) ?_;refine zE ?_;exact zP [.tmp 6]
theorem CZ:BF Tryz.prog 164:=by
 intro w a b la ca lb cb tA tB kA kB h1 h2 h3 h4 h5 h6
 rw[run_callFunc_extern Tryz.func164 (by kernel_rfl) (by kernel_rfl) (by kernel_rfl) (e:=Extern.SlicesOverlaps.overlaps #[112,112] #[4]) (by kernel_rfl),
  Lib.run_overlaps_apart w 112 4 167 (by kernel_rfl) 2 (λw=>bT (by kernel_rfl)) a b la ca lb cb h1 tA tB kA kB h2 h3 h4 h5 h6]
 rfl
set_option maxHeartbeats 1000000 in
theorem zW(x:bG):SC Tryz.prog 130 [.e0 2,bX 0,.buf 0 1 2 (some 1)] [.cells (ar x)] [0] (λr S'=>r=an 2 [x] ar/\S'=[.gone]):=by
 refine Gk 95 Tryz.func130 ?_;have hkc:=λo:Nat=>bK (o:=o) (bR x);have hon:(ar x).all dU=true:=rfl;rw[lP] at hkc hon ⊢;refine kQ ?_;refine kQ ?_;refine gX ?_;refine wy ?_;refine aE (n2 hkc hon) ?_;refine ai.fg (st':=⟨[(6,.buf 1 1 2 none)],95,[.gone,.cells (ar x)],[]⟩) (cI @lP) ?_;refine ai.fg (Fg.freeze (f':=[(6,an 2 [x] ar)]) 1 rfl (λh=>by cases h) ⟨.inr (.buf rfl (by rw[flatMap_cons,flatMap_nil,append_nil];exact bn.refl (bR x)) (by show 1*2<=2;decide)),trivial⟩) ?_;refine ai.fg (st':=⟨[(6,an 2 [x] ar)],95,[.gone],[]⟩) zH ?_;refine zE ?_;exact zP [.tmp 6]
theorem Nx(l:List bG)(i:Nat)(x:bG)(hi:i<l.length)(A:List SV):
 (((l.flatMap ar++A).take ((i+1)*2)++((l.drop i).flatMap ar++(l.flatMap ar++A).drop ((i+1)*2+(l.length-i)*2))).take (i*2)++(ar x++((l.flatMap ar++A).take ((i+1)*2)++((l.drop i).flatMap ar++(l.flatMap ar++A).drop ((i+1)*2+(l.length-i)*2))).drop (i*2+2))).take ((l.length+1)*2)=(l.take i++x::l.drop i).flatMap ar:=by
 have hf:∀l:List bG,(l.flatMap ar).length=l.length*2:=aJ (enc:=ar) (e:=2) (λ_=>rfl)
 have h1:((l.flatMap ar++A).take ((i+1)*2)).length=(i+1)*2:=by
  rw[length_take,length_append,hf];omega
 have h2:((l.flatMap ar++A).take ((i+1)*2)).take (i*2)=(l.take i).flatMap ar:=by
  rw[take_take,min_eq_left (by omega),take_append_of_le_length (by rw[hf];omega),gA (enc:=ar) (e:=2) (λ_=>rfl)]
 generalize hB:(l.flatMap ar++A).take ((i+1)*2)=B at h1 h2 ⊢;generalize (l.flatMap ar++A).drop ((i+1)*2+(l.length-i)*2)=R
 have e1:(B++((l.drop i).flatMap ar++R)).take (i*2)=(l.take i).flatMap ar:=by rw[take_append_of_le_length (by rw[h1];omega),h2]
 have e2:(B++((l.drop i).flatMap ar++R)).drop (i*2+2)=(l.drop i).flatMap ar++R:=by rw[List.drop_append_of_le_length (by rw[h1];omega),drop_of_length_le (by rw[h1];omega),List.nil_append]
 rw[e1,e2]
 have h3:((l.take i).flatMap ar++(ar x++(l.drop i).flatMap ar)).length=(l.length+1)*2:=by
  rw[length_append,length_append,hf,hf,show(ar x).length=2 from rfl,length_take,length_drop,min_eq_left (by omega)];omega
 rw[<-append_assoc (ar x),<-append_assoc,take_append_of_le_length (by rw[h3];exact le_refl _),take_of_length_le (by rw[h3];exact le_refl _),flatMap_append,flatMap_cons]
set_option maxHeartbeats 1000000 in
theorem CK(l:List bG)(i:Nat)(x:bG)(hi:i<=l.length)(hne:0<l.length)(hlen:l.length<=100000):SC Tryz.prog 130 [.buf 0 l.length 2 none,bX i,.buf 1 1 2 (some 1)] [.cells (l.flatMap ar),.cells (ar x)] [0,1] (λr S'=>r=an 2 (l.take i++x::l.drop i) ar/\S'=[.gone,.gone]):=by
 refine PQ 95 Tryz.func130 ?_;have hkl:=λo:Nat=>aW (enc:=ar) bR o l;have hkc:=λo:Nat=>bK (o:=o) (bR x);have hon:(ar x).all dU=true:=rfl;have hxl:(ar x).length=2:=rfl;have hxt:(ar x).take 2=ar x:=rfl;have hcl:(l.flatMap ar).length=l.length*2:=aJ (enc:=ar) (e:=2) (λ_=>rfl) l;have htl:(l.flatMap ar).take (l.length*2)=l.flatMap ar:=take_of_length_le (by rw[hcl];exact le_refl _);have hc1:((1:Nat):Int)=1:=rfl;refine zV ?_;refine aE (DA hi) ?_;refine aE hc1 ?_;refine aE hc1 ?_;refine gX ?_;by_cases hin:i=l.length
 ·subst hin;refine aE (show decide ((l.length:Int)=(l.length:Int))=true by simp) ?_;refine zY ?_
  have hka:∀o:Nat,(l.flatMap ar++ar x).map (bf o)=l.flatMap ar++ar x:=λo=>by rw[map_append,hkl,hkc]
  refine aE (n9 hkc hon hxl hxt hcl htl hka @le_refl (show l.length<=1000000 by omega)) ?_;refine ai.fg (st':=⟨[(6,.buf 0 (l.length+1) 2 none)],95,[.cells (l.flatMap ar++ar x),.gone],[]⟩) zH ?_
  have hq:l.flatMap ar++ar x=(l.take l.length++x::l.drop l.length).flatMap ar:=by rw[take_length,drop_length,flatMap_append,flatMap_cons,flatMap_nil,append_nil]
  have hqn:(l.take l.length++x::l.drop l.length).length=l.length+1:=by rw[take_length,drop_length,length_append,length_cons,length_nil]
  rw[hq];refine ai.fg (Fg.freeze (f':=[(6,an 2 (l.take l.length++x::l.drop l.length) ar)]) 0 rfl (λh=>by cases h) ⟨.inr (by rw[mc,hqn];exact .buf rfl (by rw[<-hqn,cu (enc:=ar) (e:=2) (λ_=>rfl)];exact bn.refl (aB bR _)) (by rw[aJ (enc:=ar) (e:=2) (λ_=>rfl),hqn];exact le_refl _)),trivial⟩) ?_;refine zE ?_;exact zP [.tmp 6]
 have hlt:i<l.length:=by omega
 refine aE (show decide ((i:Int)=(l.length:Int))=false by simp only[decide_eq_false_iff_not];omega) ?_;refine zN ?_;refine ai.Cn 0 (by decide) rfl rfl ?_;intro cap hcap;obtain⟨A,hA⟩:∃A,A=List.replicate (cap*2-(l.flatMap ar).length) SV.any:=⟨_,rfl⟩;rw[<-hA]
 have hAl:A.length=cap*2-l.length*2:=by rw[hA,List.length_replicate,hcl]
 by_cases hroom:cap<l.length+1
 ·obtain rfl:cap=l.length:=by omega
  obtain rfl:A=[]:=List.length_eq_zero_iff.1 (by rw[hAl];omega);rw[append_nil];clear hA hAl;refine aE (n3 hc1 (nh (show -9223372036854775808<=(l.length:Int)+1/\(l.length:Int)+1<=9223372036854775807 from⟨by omega,by omega⟩)) (show decide ((l.length:Int)<(l.length:Int)+1)=true by simp only[decide_eq_true_eq];omega)) ?_;refine zY ?_;obtain⟨m,hm⟩:∃m,m=l.length+1-i:=⟨_,rfl⟩;obtain⟨R,hR⟩:∃R,R=(rep [.str [],.str []] m).map SV.a:=⟨_,rfl⟩
  have hRl:R.length=m*2:=by rw[hR,List.length_map,Cm];rfl
  have hRo:R.all dU=true:=by rw[hR];exact xQ (x6 rfl m)
  have hRk:∀o:Nat,R.map (bf o)=R:=λo=>by rw[hR];exact xP o _
  obtain⟨c1,hc1e⟩:∃c1,c1=(l.flatMap ar).take (i*2)++R:=⟨_,rfl⟩
  have hc1l:c1.length=(l.length+1)*2:=by rw[hc1e,length_append,length_take,hcl,hRl,min_eq_left (by omega),hm];omega
  have hc1k:∀o:Nat,c1.map (bf o)=c1:=λo=>by rw[hc1e,map_append,hRk,List.map_take,hkl]
  refine zs ?_;refine ai.r0 (by rfl) (by simp only[bx,aX,an,aw,bind_some,map_some,↓reduceIte,reduceEqDiff,reduceAdd,reduceMul,reduceLeDiff,reduceLT,ah,ao,aP,hc1,rR hi,bA (l.length:Int) 1 (by omega),bS ((l.length:Int)+1) (i:Int) (by omega),show((l.length:Int)+1-(i:Int))=(m:Int) by omega,<-hR,hRo,sub_zero,show m<=1000000 by omega,show ¬m=0 by omega,show i<=1000000 by omega,hcl,show i*2<=l.length*2 by omega,show l.length<l.length+1 by omega,show i+m=l.length+1 by omega,<-hc1e,hc1k,hkl,hkc];first | done | rfl) ?_;obtain⟨c2,hc2e⟩:∃c2,c2=c1.take (i*2)++(ar x++c1.drop (i*2+2)):=⟨_,rfl⟩
  have hc2l:c2.length=(l.length+1)*2:=by rw[hc2e,length_append,length_append,length_take,length_drop,hc1l,hxl];omega
  refine aE (n8 (DA (show i<=l.length+1 by omega)) hxl hxt (show Nat.min 1 (l.length+1-i)=1 by simp only[min_def];rw[if_pos (by omega)]) hc1l (show i*2+2<=(l.length+1)*2 by omega) hon (Eq.symm hc2e)) ?_
  have hdr:((l.flatMap ar).drop (i*2)).take ((l.length-i)*2)=(l.drop i).flatMap ar:=by
   rw[jV (enc:=ar) (e:=2) (λ_=>rfl),take_of_length_le];rw[aJ (enc:=ar) (e:=2) (λ_=>rfl),length_drop];exact le_refl _
  have hdl:((l.drop i).flatMap ar).length=(l.length-i)*2:=by rw[aJ (enc:=ar) (e:=2) (λ_=>rfl),length_drop]
  have hdt:((l.drop i).flatMap ar).take ((l.length-i)*2)=(l.drop i).flatMap ar:=take_of_length_le (by rw[hdl];exact le_refl _);have hdo:((l.drop i).flatMap ar).all dU=true:=uB (l.drop i);obtain⟨c3,hc3e⟩:∃c3,c3=c2.take ((i+1)*2)++((l.drop i).flatMap ar++c2.drop ((i+1)*2+(l.length-i)*2)):=⟨_,rfl⟩
  have hfin:c3=(l.take i++x::l.drop i).flatMap ar:=by
   have e0:c1.take (i*2)=(l.take i).flatMap ar:=by
    rw[hc1e,take_append_of_le_length (by rw[length_take,hcl];omega),take_take,Nat.min_self,gA (enc:=ar) (e:=2) (λ_=>rfl)]
   have e1:((l.take i).flatMap ar++ar x).length=(i+1)*2:=by
    rw[length_append,aJ (enc:=ar) (e:=2) (λ_=>rfl),hxl,length_take,min_eq_left hi];omega
   rw[hc3e,show c2.drop ((i+1)*2+(l.length-i)*2)=[] from drop_of_length_le (by rw[hc2l];omega),append_nil,hc2e,e0,<-append_assoc,take_append_of_le_length (by rw[e1];exact le_refl _),take_of_length_le (by rw[e1];exact le_refl _),flatMap_append,flatMap_cons,append_assoc]
  refine zs ?_;refine oW [0,0,0,6,15,0,0,96,255] ?_
  (repeat (first | refine SD.r (by rfl) rfl (by rfl) (by rfl) (gY (n4 (bA (i:Int) 1 (by omega)) (pJ) (DA (show i+1<=l.length+1 by omega)) (DA hi))) ?_ | refine SD.s (by rfl) rfl (by rfl) (by rfl) ?_ | fail))
  refine SD.ed (by rfl) rfl (by rfl) rfl rfl (by rfl) (by simp only[bx,aX,an,aw,bind_some,map_some,↓reduceIte,reduceEqDiff,reduceAdd,reduceMul,reduceLeDiff,reduceLT,ah,ao,aP,hcl,hc2l,show i*2+(l.length-i)*2<=l.length*2 by omega,show Nat.min (l.length-i) (l.length+1-(i+1))=l.length-i by simp only[min_def];split<;>omega,show ¬(l.length-i=0) by omega,show(i+1)*2+(l.length-i)*2<=(l.length+1)*2 by omega,hdr,hdl,hdt,hdo,le_refl,<-hc3e];first | done | rfl) ?_;refine zM ?_;refine zV ?_
  have hqn:(l.take i++x::l.drop i).length=l.length+1:=by rw[length_append,length_cons,length_take,length_drop,min_eq_left hi];omega
  rw[hfin];refine ai.fg (st':=⟨[(6,.buf 2 (l.length+1) 2 none)],95,[.gone,.gone,.cells ((l.take i++x::l.drop i).flatMap ar)],[]⟩) zH ?_;refine ai.fg (Fg.freeze (f':=[(6,an 2 (l.take i++x::l.drop i) ar)]) 2 rfl (λh=>by cases h) ⟨.inr (by rw[mc,hqn];exact .buf rfl (by rw[<-hqn,cu (enc:=ar) (e:=2) (λ_=>rfl)];exact bn.refl (aB bR _)) (by rw[aJ (enc:=ar) (e:=2) (λ_=>rfl),hqn];exact le_refl _)),trivial⟩) ?_;refine ai.fg (st':=⟨[(6,an 2 (l.take i++x::l.drop i) ar)],95,[.gone,.gone],[]⟩) zH ?_;refine zE ?_;exact zP [.tmp 6]
 have hcap2:l.length+1<=cap:=by omega
 have hXl:(l.flatMap ar++A).length=cap*2:=by rw[length_append,hcl,hAl];omega
 have hnn:(-9223372036854775808:Int)<=(l.length:Int)+1/\(l.length:Int)+1<=9223372036854775807:=⟨by omega,by omega⟩;refine aE (n3 hc1 (nh hnn) (show decide ((cap:Int)<(l.length:Int)+1)=false by simp only[decide_eq_false_iff_not];omega)) ?_;refine zN ?_
 have hbt:cF l.length (some cap) none (some (.int .i64 ((l.length+1:Nat):Int))) none=some (0,l.length+1,some cap):=by
  unfold cF mF ny;simp only[kM,bind_some,ek hcap2,Bool.or_true,ah]
 refine zs ?_;refine ai.r0 (by rfl) (gY (n4 hc1 (nh hnn) (pJ) hbt)) ?_;have hii:(-9223372036854775808:Int)<=(i:Int)+1/\(i:Int)+1<=9223372036854775807:=⟨by omega,by omega⟩;refine zs ?_;refine ai.M8 (by rfl) (gY (n5 hc1 (nh hii) (pJ) (DA (show i+1<=l.length+1 by omega)) @sub_zero)) ?_;refine aM.Rf CZ (by rfl) rfl rfl (by rfl) rfl zc rfl rfl rfl rfl (by decide) (by decide) (by omega) (by rw[hXl];omega) ?_;refine zR ?_;refine zY ?_
 have hdr:(((l.flatMap ar++A).drop (i*2)).take ((l.length+1-i)*2)).take ((l.length-i)*2)=(l.drop i).flatMap ar:=by
  rw[take_take,min_eq_left (by omega),List.drop_append_of_le_length (by rw[hcl];omega),jV (enc:=ar) (e:=2) (λ_=>rfl),take_append_of_le_length (by rw[aJ (enc:=ar) (e:=2) (λ_=>rfl),length_drop];exact le_refl _),take_of_length_le];rw[aJ (enc:=ar) (e:=2) (λ_=>rfl),length_drop];exact le_refl _
 have hdl:(((l.flatMap ar++A).drop (i*2)).take ((l.length+1-i)*2)).length=(l.length+1-i)*2:=by
  rw[length_take,length_drop,hXl,min_eq_left (by omega)]
 have hdo:((l.drop i).flatMap ar).all dU=true:=uB (l.drop i);obtain⟨w1,hw1⟩:∃w1,w1=(l.flatMap ar++A).take ((i+1)*2)++((l.drop i).flatMap ar++(l.flatMap ar++A).drop ((i+1)*2+(l.length-i)*2)):=⟨_,rfl⟩
 have hw1l:w1.length=cap*2:=by rw[hw1,length_append,length_append,length_take,length_drop,hXl,aJ (enc:=ar) (e:=2) (λ_=>rfl),length_drop,min_eq_left (by omega)];omega
 obtain⟨w2,hw2⟩:∃w2,w2=w1.take (i*2)++(ar x++w1.drop (i*2+2)):=⟨_,rfl⟩
 have hw2l:w2.length=cap*2:=by rw[hw2,length_append,length_append,length_take,length_drop,hw1l,hxl,min_eq_left (by omega)];omega
 have hfin:w2.take ((l.length+1)*2)=(l.take i++x::l.drop i).flatMap ar:=by rw[hw2,hw1];exact Nx l i x hlt A
 refine zs ?_;refine oW [0,0,0,6,15,0,0,96,255] ?_
 (repeat (first | refine SD.r (by rfl) rfl (by rfl) (by rfl) (gY (n5 (nh hii) (pJ) (DA (show i+1<=l.length+1 by omega)) (DA (show i<=l.length+1 by omega)) @sub_zero)) ?_ | refine SD.s (by rfl) rfl (by rfl) (by rfl) ?_ | fail))
 refine SD.ed (by rfl) rfl (by rfl) rfl rfl (by rfl) (by simp only[bx,aX,an,aw,bind_some,map_some,↓reduceIte,reduceEqDiff,reduceAdd,reduceMul,reduceLeDiff,reduceLT,ah,ao,aP,hXl,hcl,show i*2+(l.length+1-i)*2<=cap*2 by omega,show Nat.min (l.length+1-i) (l.length+1-(i+1))=l.length-i by simp only[min_def];split<;>omega,show ¬(l.length-i=0) by omega,show(i+1)*2+(l.length-i)*2<=cap*2 by omega,hdr,hdl,show(l.length-i)*2<=(l.length+1-i)*2 by omega,hdo,le_refl,<-hw1];first | done | rfl) ?_;refine zM ?_;refine aE (n8 (DA (show i<=l.length+1 by omega)) hxl hxt (show Nat.min 1 (l.length+1-i)=1 by simp only[min_def];rw[if_pos (by omega)]) hw1l (show i*2+2<=cap*2 by omega) hon (Eq.symm hw2)) ?_;refine zV ?_
 have hqn:(l.take i++x::l.drop i).length=l.length+1:=by rw[length_append,length_cons,length_take,length_drop,min_eq_left hi];omega
 refine ai.fg (st':=⟨[(6,.buf 0 (l.length+1) 2 (some cap))],95,[.cells w2,.gone],[]⟩) zH ?_;refine ai.fg (Fg.freeze (f':=[(6,an 2 (l.take i++x::l.drop i) ar)]) 0 rfl (λh=>by cases h) ⟨.inr (by rw[mc,hqn];exact .buf rfl (by rw[hfin];exact bn.refl (aB bR _)) (by rw[hw2l];omega)),trivial⟩) ?_;refine zE ?_;exact zP [.tmp 6]
end Go.Proofs
