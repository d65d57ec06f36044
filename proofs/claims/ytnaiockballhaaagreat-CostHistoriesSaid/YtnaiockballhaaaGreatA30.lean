/- A part of the texts of this claim: every theorem says what it proves, with its conditions. -/
import Derived.Test.YtnaiockballhaaaGreatA29
import Derived.Test.YtnaiockballhaaaGreatA28
import Derived.Test.YtnaiockballhaaaGreatA23
import Derived.Test.YtnaiockballhaaaGreatA18
set_option linter.unusedSimpArgs false
set_option linter.unusedVariables false
set_option linter.unusedSectionVars false
open Nat (le_refl succ_mul zero_le ble)
open List (length_set flatMap_cons Perm append_nil getElem?_eq_getElem nil_append replicate cons_append length_take)
open Option (bind_some map_some)
open Bool (and_eq_true)
namespace Go.Proofs
open Go.Ev
set_option maxRecDepth 100000
def iu.JX(u:iu):Bool:=jv u.u1 u.u2&&(jv u.u3 u.u4&&jv u.u5 u.u6)
def p9(f:bE)(u:iu):Int×Int:=if u.JX=true/\eK f=true then (dQ 0 (l7 u f).1,dQ 0 (l7 u f).2) else (0,0)
theorem GP{a b:Int}(h:jv a b=true):a<=b:=by
 unfold jv at h;simp only[and_eq_true,Bool.not_eq_true',decide_eq_false_iff_not] at h;omega
theorem iu.NI{u:iu}(h:u.JX=true):u.ok:=by
 unfold iu.JX at h;simp only[and_eq_true] at h;exact⟨GP h.1,GP h.2.1,GP h.2.2⟩
set_option maxHeartbeats 1000000 in
theorem Fq(f:bE)(u:iu)(hf:gm f):PC Tryz.prog 41 [.ag (aI f),.ag (dJ u)] (·=nj (p9 f u)):=by
 have hv:=pW f hf;have hr:=λh1 h2=>MY u h1 f hf h2
 have hd:p9 f u=if u.JX=true/\Proofs.eK f=true then (dQ 0 (l7 u f).1,dQ 0 (l7 u f).2) else (0,0):=rfl
 have hvr:Proofs.eK f=true->fJ f=true:=λh=>by unfold Proofs.eK at h;simp only[and_eq_true] at h;exact h.2
 generalize Proofs.eK f=V at hv hd hvr;generalize fJ f=R at hr hvr;generalize l7 u f=r at hr hd;obtain⟨op,n,kids⟩:=f;rw[dr] at hv hr ⊢;obtain⟨ivs,hivs⟩:∃l:List (Int×Int),l=[(u.u1,u.u2),(u.u3,u.u4),(u.u5,u.u6)]:=⟨_,rfl⟩
 have hgood:u.JX=ivs.all λp=>jv p.1 p.2:=by rw[hivs];simp[iu.JX]
 have hkc:∀(o:Nat) (l:List (Int×Int)),(l.flatMap cQ).map (bf o)=l.flatMap cQ:=λo l=>aW lF o l;have hcl:=aJ qc ivs
 have hlen:ivs.length<=1000:=by rw[hivs];simp
 refine pB 53 Tryz.func41 ?_;refine aE @dJ.eq_1 ?_;refine zV ?_;refine zs ?_;refine zL ivs (λk=>(ivs.take k).all (λp=>jv p.1 p.2)=true) (λk=>[(2,.ptr 0 0),(3,.ptr 1 0),(4,.ptr 2 0),(14,.buf 3 ivs.length 2 (some 3)),(15,aa ivs.length),(16,aa k)]) (λk=>[.cells [aa op,aa n,.sl kids.length 3 (kids.flatMap aI)],.cells (dJ u),.cells [aa 0,aa 0],.cells (ivs.flatMap cQ)]) (Fg.less (nM (n9 @dJ.eq_1 hivs @List.length_cons.{0} @List.length_nil.{0} @flatMap_cons.{0,0} @List.flatMap_nil.{0,0} @cQ.eq_1 @cons_append.{0} @nil_append.{0})) (nN (n9 @dJ.eq_1 hivs @List.length_cons.{0} @List.length_nil.{0} @flatMap_cons.{0,0} @List.flatMap_nil.{0,0} @cQ.eq_1 @cons_append.{0} @nil_append.{0}))) zp ?_;intro k hk hall;refine zV ?_;by_cases hlt:k<ivs.length;rotate_left;obtain rfl:k=ivs.length:=(by omega);rw[zf];rotate_left;rw[zt hlt];obtain⟨x,hx⟩:=zx hlt;rotate_left
 ·refine zN ?_;refine ai.exit ?_;rw[List.take_length] at hall;rw[<-hgood] at hall;refine gl @dJ.eq_1 ?_;refine zK hv ?_;cases hV:V
  ·refine zR ?_;refine cE ?_;refine zE ?_;exact zO [.cell 4 72] (hq:=by (try simp only[aC,ab]);first | done | (rw[hd,if_neg (by rw[hV];simp)];rfl))
  refine zR ?_;refine zN ?_;have hrr:=hr (iu.NI hall) (hvr hV);rw[oz,dJ] at hrr;refine gl @dJ.eq_1 ?_;refine zK hrr ?_;refine cS (n2 @nj.eq_1 @kJ.eq_1) ?_;refine aE @e8 ?_;refine zE ?_;exact zO [.cell 4 72] (hq:=by (try simp only[aC,ab]);first | done | (rw[hd,if_pos ⟨hall,hV⟩];rfl))
 have hnext:jv x.1 x.2=true->(ivs.take (k+1)).all (λp=>jv p.1 p.2)=true:=λh=>by rw[bo hx,List.all_append,hall];simp[h]
 have hbad:jv x.1 x.2=false->p9 (.mk op n kids) u=(0,0):=λh=>by
  rw[hd,if_neg];rintro⟨h2,_⟩;rw[hgood] at h2;have:=List.all_eq_true.1 h2 x (List.mem_of_getElem? hx);rw[h] at this;cases this
 refine zY ?_
 (repeat refine ai.seq ?_)
 refine ai.block ?_;refine aE (n7 hlt (aH (e:=2) (enc:=cQ) (λ_=>rfl) hx) @cQ.eq_1 @dJ.eq_1 hcl hkc (show k*2+2<=ivs.length*2 by omega)) ?_;cases g1:decide (x.1<0);rotate_left
 ·refine aE g1 ?_;refine cE ?_;refine zE ?_;exact zO [.cell 4 72] (hq:=by (try simp only[aC,ab]);first | done | (rw[hbad (by rw[jv,g1];rfl)];rfl))
 cases g2:decide (x.2<x.1);rotate_left
 ·refine aE (n2 g1 g2) ?_;refine cE ?_;refine zE ?_;exact zO [.cell 4 72] (hq:=by (try simp only[aC,ab]);first | done | (rw[hbad (by rw[jv,g1,g2];rfl)];rfl))
 cases g3:decide (1000000<x.2);rotate_left
 ·refine aE (n3 g1 g2 g3) ?_;refine cE ?_;refine zE ?_;exact zO [.cell 4 72] (hq:=by (try simp only[aC,ab]);first | done | (rw[hbad (by rw[jv,g1,g2,g3];rfl)];rfl))
 refine aE (n3 g1 g2 g3) ?_;refine zN ?_;refine aE (zi hlt (show ivs.length<=1000000 by omega)) ?_;refine zX hlt (cI (n2 hkc @dJ.eq_1)) (hnext (by rw[jv,g1,g2,g3];rfl))
theorem nz{α:Type}{enc:α->List SV}(h:∀x,(enc x).all dU=true)(l:List α):(l.flatMap enc).all dU=true:=by
 rw[List.all_flatMap,List.all_eq_true];exact λx _=>h x
theorem bz(p:aG):cr (ae p)=true:=rfl
theorem bR(p:bG):cr (ar p)=true:=rfl
theorem IC(l:List bB):(l.flatMap aF).all dU=true:=nz (λ_=>rfl) l
theorem uw(l:List aG):(l.flatMap ae).all dU=true:=nz (λ_=>rfl) l
theorem uB(l:List bG):(l.flatMap ar).all dU=true:=nz (λ_=>rfl) l
theorem vO:SC Tryz.prog 42 [an 14 ([]:List aG) ae] [] [] (λr S'=>r=.e0 14/\S'=[]):=by
 refine Jl 8 Tryz.func42 ?_;refine ki ?_;refine aM.Kh (by rfl) rfl rfl (by rfl) rfl rfl (by simp only[aw]) (by kernel_rfl) ?_;intro b _;refine zR ?_;cases b
 ·refine gX ?_;refine ai.fg (Fg.e0 2 14 (.inr ⟨0,rfl⟩)) ?_;refine ai.fg (st':=⟨[(2,.e0 14)],8,[],[]⟩) zH ?_;refine zE ?_;exact zP [.tmp 2]
 ·refine cE ?_;refine ai.fg (Fg.e0 2 14 (.inl rfl)) ?_;refine zE ?_;exact zP [.tmp 2]
theorem oQ(l:List aG)(hlen:l.length<=1000000)(hne:l≠[]):SC Tryz.prog 42 [an 14 l ae] [] [] (λr S'=>r=.buf 1 l.length 14 none/\S'=[.gone,.cells (l.flatMap ae)]):=by
 have h0:¬l.length=0:=λe=>hne (List.length_eq_zero_iff.1 e);refine Jl 8 Tryz.func42 ?_;have hkc:=λo=>aW (enc:=ae) bz o l;have hon:(l.flatMap ae).all dU=true:=uw l;refine ki ?_;refine aM.Kh (by rfl) rfl rfl (by rfl) rfl rfl (by simp only[aw]) (by kernel_rfl) ?_;intro b hb;cases b;rotate_left
 ·exact absurd (hb rfl) h0
 refine zR ?_;refine zN ?_;have hp0:0<l.length:=Nat.pos_of_ne_zero h0;refine aE (n6 h0 hp0 hlen hon hkc @le_refl) ?_;refine ai.fg (st':=⟨[(2,.buf 1 l.length 14 none)],8,[.gone,.cells (l.flatMap ae)],[]⟩) zH ?_;refine zE ?_;exact zP [.tmp 2]
theorem vP:SC Tryz.prog 129 [an 2 ([]:List bG) ar] [] [] (λr S'=>r=.e0 2/\S'=[]):=by
 refine Jl 8 Tryz.func129 ?_;refine ki ?_;refine aM.Kh (by rfl) rfl rfl (by rfl) rfl rfl (by simp only[aw]) (by kernel_rfl) ?_;intro b _;refine zR ?_;cases b
 ·refine gX ?_;refine ai.fg (Fg.e0 2 2 (.inr ⟨0,rfl⟩)) ?_;refine ai.fg (st':=⟨[(2,.e0 2)],8,[],[]⟩) zH ?_;refine zE ?_;exact zP [.tmp 2]
 ·refine cE ?_;refine ai.fg (Fg.e0 2 2 (.inl rfl)) ?_;refine zE ?_;exact zP [.tmp 2]
theorem vQ(l:List bG)(hlen:l.length<=1000000)(hne:l≠[]):SC Tryz.prog 129 [an 2 l ar] [] [] (λr S'=>r=.buf 1 l.length 2 none/\S'=[.gone,.cells (l.flatMap ar)]):=by
 have h0:¬l.length=0:=λe=>hne (List.length_eq_zero_iff.1 e);refine Jl 8 Tryz.func129 ?_;have hkc:=λo=>aW (enc:=ar) bR o l;have hon:(l.flatMap ar).all dU=true:=uB l;refine ki ?_;refine aM.Kh (by rfl) rfl rfl (by rfl) rfl rfl (by simp only[aw]) (by kernel_rfl) ?_;intro b hb;cases b;rotate_left
 ·exact absurd (hb rfl) h0
 refine zR ?_;refine zN ?_;have hp0:0<l.length:=Nat.pos_of_ne_zero h0;refine aE (n6 h0 hp0 hlen hon hkc @le_refl) ?_;refine ai.fg (st':=⟨[(2,.buf 1 l.length 2 none)],8,[.gone,.cells (l.flatMap ar)],[]⟩) zH ?_;refine zE ?_;exact zP [.tmp 2]
theorem zr:SC Tryz.prog 36 [an 14 ([]:List bB) aF] [] [] (λr S'=>r=.e0 14/\S'=[]):=by
 refine Jl 8 Tryz.func36 ?_;refine ki ?_;refine aM.Kh (by rfl) rfl rfl (by rfl) rfl rfl (by simp only[aw]) (by kernel_rfl) ?_;intro b _;refine zR ?_;cases b
 ·refine gX ?_;refine ai.fg (Fg.e0 2 14 (.inr ⟨0,rfl⟩)) ?_;refine ai.fg (st':=⟨[(2,.e0 14)],8,[],[]⟩) zH ?_;refine zE ?_;exact zP [.tmp 2]
 ·refine cE ?_;refine ai.fg (Fg.e0 2 14 (.inl rfl)) ?_;refine zE ?_;exact zP [.tmp 2]
theorem zu(l:List bB)(hlen:l.length<=1000000)(hne:l≠[]):SC Tryz.prog 36 [an 14 l aF] [] [] (λr S'=>r=.buf 1 l.length 14 none/\S'=[.gone,.cells (l.flatMap aF)]):=by
 have h0:¬l.length=0:=λe=>hne (List.length_eq_zero_iff.1 e);refine Jl 8 Tryz.func36 ?_;have hkc:=λo=>aW (enc:=aF) cU o l;have hon:(l.flatMap aF).all dU=true:=IC l;refine ki ?_;refine aM.Kh (by rfl) rfl rfl (by rfl) rfl rfl (by simp only[aw]) (by kernel_rfl) ?_;intro b hb;cases b;rotate_left
 ·exact absurd (hb rfl) h0
 refine zR ?_;refine zN ?_;have hp0:0<l.length:=Nat.pos_of_ne_zero h0;refine aE (n6 h0 hp0 hlen hon hkc @le_refl) ?_;refine ai.fg (st':=⟨[(2,.buf 1 l.length 14 none)],8,[.gone,.cells (l.flatMap aF)],[]⟩) zH ?_;refine zE ?_;exact zP [.tmp 2]
section
variable {α:Type} {enc:α->List SV} {e:Nat}
theorem gA(he:∀x,(enc x).length=e):∀(l:List α) (i:Nat),(l.flatMap enc).take (i*e)=(l.take i).flatMap enc
 | [],i=>by simp
 | a::l,0=>by simp
 | a::l,i+1=>by
  rw[flatMap_cons,succ_mul,Nat.add_comm,List.take_succ_cons,flatMap_cons,<-gA he l i];rw[List.take_append,he,show e+i*e-e=i*e by omega,List.take_of_length_le (by rw[he];omega)]
theorem jV(he:∀x,(enc x).length=e):∀(l:List α) (i:Nat),(l.flatMap enc).drop (i*e)=(l.drop i).flatMap enc
 | [],i=>by simp
 | a::l,0=>by simp
 | a::l,i+1=>by
  rw[flatMap_cons,succ_mul,Nat.add_comm,List.drop_succ_cons,<-jV he l i];rw[List.drop_append,he,show e+i*e-e=i*e by omega,List.drop_of_length_le (by rw[he];omega),nil_append]
theorem gN(he:∀x,(enc x).length=e){l:List α}{i:Nat}(y:α)(h:i<l.length):(l.flatMap enc).take (i*e)++(enc y++(l.flatMap enc).drop (i*e+e))=(l.set i y).flatMap enc:=by
 rw[gA he,show i*e+e=(i+1)*e by rw[succ_mul],jV he,List.set_eq_take_append_cons_drop,if_pos h,List.flatMap_append,flatMap_cons]
end
def oR{α:Type}(lt:α->α->Bool):Nat->List α->List α
 | 0,l=>l
 | j+1,l=>match l[j+1]?,l[j]? with
  | some x,some y=>if lt x y=true then oR lt j ((l.set (j+1) y).set j x) else l
  | _,_=>l
def vH{α:Type}(lt:α->α->Bool):Nat->Nat->List α->List α
 | 0,_,l=>l
 | n+1,i,l=>vH lt n (i+1) (oR lt i l)
def pC{α:Type}(lt:α->α->Bool)(l:List α):List α:=vH lt (l.length-1) 1 l
theorem DD{α:Type}{lt:α->α->Bool}:∀(j:Nat) (l:List α),(oR lt j l).length=l.length
 | 0,l=>rfl
 | j+1,l=>by
  unfold oR;split
  ·split
   ·rw[DD j,length_set,length_set]
   ·rfl
  ·rfl
theorem D8{α:Type}{lt:α->α->Bool}:∀(n i:Nat) (l:List α),(vH lt n i l).length=l.length
 | 0,_,_=>rfl
 | n+1,i,l=>by rw[vH,D8 n,DD]
theorem xC{α:Type}(lt:α->α->Bool)(l:List α):(pC lt l).length=l.length:=D8 _ _ _
theorem swap_perm{α:Type}{l:List α}{j:Nat}{x y:α}(hx:l[j+1]?=some x)(hy:l[j]?=some y):((l.set (j+1) y).set j x).Perm l:=by
 have h1:j+1<l.length:=bl hx
 have h0:j<l.length:=by omega
 have e:l=l.take j++(y::x::l.drop (j+2)):=by
  have a1:l.drop j=y::l.drop (j+1):=eZ hy;have a2:l.drop (j+1)=x::l.drop (j+2):=eZ hx;rw[<-a2,<-a1,List.take_append_drop]
 have hlt:(l.take j).length=j:=by rw[length_take];omega
 have e2:(l.set (j+1) y).set j x=l.take j++(x::y::l.drop (j+2)):=by
  apply List.ext_getElem?;intro i;rw[List.getElem?_set,List.getElem?_append,hlt];by_cases c1:j=i
  ·subst c1;rw[if_pos rfl,length_set,if_pos h0,if_neg (Nat.lt_irrefl _),Nat.sub_self];rfl
  ·rw[if_neg c1,List.getElem?_set];by_cases c2:j+1=i
   ·subst c2;rw[if_pos rfl,if_pos h1,if_neg (by omega),show j+1-j=1 by omega];rfl
   ·rw[if_neg c2];by_cases c3:i<j
    ·rw[if_pos c3,List.getElem?_take,if_pos c3]
    ·rw[if_neg c3,show i-j=(i-(j+2))+2 by omega,List.getElem?_cons_succ,List.getElem?_cons_succ,List.getElem?_drop,show j+2+(i-(j+2))=i by omega]
 rw[e2]
 conv=>rhs;rw[e]
 exact Perm.append_left _ (Perm.swap _ _ _)
theorem Al{α:Type}{lt:α->α->Bool}:∀(j:Nat) (l:List α),(oR lt j l).Perm l
 | 0,l=>Perm.refl _
 | j+1,l=>by
  unfold oR;split
  ·rename_i x y hx hy;split
   ·exact(Al j _).trans (swap_perm hx hy)
   ·exact Perm.refl _
  ·exact Perm.refl _
theorem AL{α:Type}{lt:α->α->Bool}:∀(n i:Nat) (l:List α),(vH lt n i l).Perm l
 | 0,_,_=>Perm.refl _
 | n+1,i,l=>by rw[vH];exact(AL n (i+1) _).trans (Al i l)
theorem AK{α:Type}(lt:α->α->Bool)(l:List α):(pC lt l).Perm l:=AL _ _ _
def qI(cmp:bB->bB->Int)(x y:bB):Bool:=decide (cmp x y<0)
set_option maxHeartbeats 2000000 in
theorem HD(g:FuncId)(cmp:bB->bB->Int)(hg:∀x y,PC Tryz.prog g [.ag (aF x),.ag (aF y)] (·=aa (cmp x y)))(c:Option Nat)(l:List bB)(hlen:l.length<=100000):
 SC Tryz.prog 184 [.buf 0 l.length 14 c,aa 0,aa l.length,.fn g [] []] [.cells (l.flatMap aF)] [] (λr S'=>r=.bI []/\S'=[.cells ((pC (qI cmp) l).flatMap aF)]):=by
 refine Gk 53 Tryz.func184 ?_;refine zV ?_
 (repeat refine ai.seq ?_)
 refine ai.block (ai.loop (λm st=>∃(i:Nat) (q:List bB),(q.length=l.length/\(i+1<=l.length\/i=0))/\pC (qI cmp) l=vH (qI cmp) (l.length-(i+1)) (i+1) q/\l.length-i=m/\st=⟨[(0,.buf 0 l.length 14 c),(1,aa 0),(2,aa l.length),(3,.fn g [] []),(8,bX (i+1)),(1000000,.ptr 0 0)],53,[.cells (q.flatMap aF)],[]⟩) l.length zH ⟨0,l,⟨rfl,.inr rfl⟩,rfl,Nat.sub_zero _,rfl⟩ (by rintro m st ⟨i,q,_,_,_,rfl⟩;rfl) ?_);rintro m st ⟨i,q,⟨hql,hi⟩,hres,rfl,rfl⟩;refine zV ?_;by_cases hlt:i+1<l.length;rotate_left
 ·rw[show decide (((i+1:Nat):Int)<(l.length:Int))=false by simp only[decide_eq_false_iff_not];omega];refine zN ?_;refine ai.fg (st':=⟨[(1000000,.ptr 0 0)],53,[.cells (q.flatMap aF)],[]⟩) zH ?_;refine ai.exit ?_;simp only[iq,eB,df,cL,if_true];rw[show l.length-(i+1)=0 by omega,vH] at hres;exact zP [] (hq:=by (try simp only[aC,ab]);first | done | (rw[hres];first | exact⟨rfl,rfl⟩ | exact⟨trivial,rfl⟩ | exact⟨rfl,trivial⟩ | exact⟨trivial,trivial⟩))
 rw[show decide (((i+1:Nat):Int)<(l.length:Int))=true by simp only[decide_eq_true_eq];omega];refine zY ?_
 (repeat refine ai.seq ?_)
 refine ai.block ?_;refine zV ?_;obtain⟨s,hs⟩:∃s,l.length-(i+1)=s+1:=⟨l.length-(i+1)-1,by omega⟩;rw[hs,vH] at hres
 (repeat refine ai.seq ?_)
 refine ai.block (ai.loop (λm st=>∃(j:Nat) (p:List bB),(p.length=l.length/\j<=i+1)/\oR (qI cmp) (i+1) q=oR (qI cmp) j p/\j=m/\st=⟨[(0,.buf 0 l.length 14 c),(1,aa 0),(2,aa l.length),(3,.fn g [] []),(8,bX (i+1)),(9,bX j),(1000000,.ptr 0 0)],53,[.cells (p.flatMap aF)],[]⟩) (i+1) zH ⟨i+1,q,⟨hql,le_refl _⟩,rfl,rfl,rfl⟩ (by rintro m st ⟨j,p,_,_,_,rfl⟩;rfl) ?_);rintro m st ⟨j,p,⟨hpl,hj⟩,hb,rfl,rfl⟩;have hil:i+1<l.length:=hlt
 have hcl:(p.flatMap aF).length=l.length*14:=by rw[aJ cN,hpl]
 cases j with
 | zero=>
  refine zs ?_;refine oW [0,0,3,7,15,15,15,111,239,15,15,1039,3599,7695,16383,32767,65535] ?_;refine nL (show decide ((0:Int)<((0:Nat):Int))=false from rfl) ?_;refine zM ?_;refine zN ?_;refine ai.exit ?_;refine aE (nh (show -9223372036854775808<=((i+1:Nat):Int)+1/\((i+1:Nat):Int)+1<=9223372036854775807 from⟨by omega,by omega⟩)) ?_;exact⟨l.length-(i+1),_,by omega,zH,i+1,p,⟨hpl,.inl (by omega)⟩,by rw[hres,hb,oR,show l.length-(i+1+1)=s by omega],rfl,rfl⟩
 | succ j=>
  have hj1:j+1<l.length:=by omega
  have hj0:j<l.length:=by omega
  obtain⟨x,hx⟩:∃x,p[j+1]?=some x:=⟨p[j+1],getElem?_eq_getElem (by omega)⟩;obtain⟨y,hy⟩:∃y,p[j]?=some y:=⟨p[j],getElem?_eq_getElem (by omega)⟩;have ax:((p.flatMap aF).drop ((j+1)*14)).take 14=aF x:=aH (e:=14) (enc:=aF) cN hx;have ay:((p.flatMap aF).drop (j*14)).take 14=aF y:=aH (e:=14) (enc:=aF) cN hy
  have hbs:oR (qI cmp) (j+1) p=if qI cmp x y=true then oR (qI cmp) j ((p.set (j+1) y).set j x) else p:=by rw[oR,hx,hy]
  have s1:=gN (enc:=aF) cN (l:=p) (i:=j+1) y (by omega);have s2:=gN (enc:=aF) cN (l:=p.set (j+1) y) (i:=j) x (by rw[length_set];omega)
  have hcl2:((p.set (j+1) y).flatMap aF).length=l.length*14:=by rw[aJ cN,length_set,hpl]
  rw[dg y] at s1 ay;rw[dg x] at s2 ax;simp only[cons_append,nil_append] at s1 s2;have hgx:=hg x y;rw[dg y,dg x] at hgx;refine zs ?_;refine oW [0,0,3,7,15,15,15,111,239,15,15,1039,3599,7695,16383,32767,65535] ?_;refine nL (n10 (show decide ((0:Int)<((j+1:Nat):Int))=true from by simp only[decide_eq_true_eq];omega) hj1 hj0 (KP (show -9223372036854775808<=((j+1:Nat):Int)-1/\((j+1:Nat):Int)-1<=9223372036854775807 from⟨by omega,by omega⟩)) (show((j+1:Nat):Int)-1=(j:Int) from by omega) hcl (show(j+1)*14+14<=l.length*14 by omega) (show j*14+14<=l.length*14 by omega) ax ay) ?_;refine SD.k (by rfl) rfl rfl (by rfl) rfl rfl zc (hgx) (zw) rfl ?_;cases hc:decide (cmp x y<0)
  ·rw[qI,hc,if_neg (by decide)] at hbs;refine nL hc ?_;refine zM ?_;refine zN ?_;refine ai.exit ?_;refine aE (nh (show -9223372036854775808<=((i+1:Nat):Int)+1/\((i+1:Nat):Int)+1<=9223372036854775807 from⟨by omega,by omega⟩)) ?_;exact⟨l.length-(i+1),_,by omega,zH,i+1,p,⟨hpl,.inl (by omega)⟩,by rw[hres,hb,hbs,show l.length-(i+1+1)=s by omega],rfl,rfl⟩
  ·rw[qI,hc,if_pos rfl] at hbs;refine nL hc ?_;refine zM ?_;refine zY ?_
   (repeat refine ai.seq ?_)
   refine ai.block ?_;refine zs ?_;refine oW [0,0,0,0,8,0,0,64,224,480,0,0,3072,7168,16355,32739,65535,131071] ?_;refine nL (n9 hj1 hj0 (KP (show -9223372036854775808<=((j+1:Nat):Int)-1/\((j+1:Nat):Int)-1<=9223372036854775807 from⟨by omega,by omega⟩)) (show((j+1:Nat):Int)-1=(j:Int) from by omega) hcl (show(j+1)*14+14<=l.length*14 by omega) (show j*14+14<=l.length*14 by omega) ax ay) ?_;refine SD.e (by rfl) rfl (by rfl) rfl rfl (by rfl) (gY (n3 hcl (show(j+1)*14+14<=l.length*14 by omega) s1)) ?_;refine nL (n4 hj1 hj0 (KP (show -9223372036854775808<=((j+1:Nat):Int)-1/\((j+1:Nat):Int)-1<=9223372036854775807 from⟨by omega,by omega⟩)) (show((j+1:Nat):Int)-1=(j:Int) from by omega)) ?_;refine SD.e (by rfl) rfl (by rfl) rfl rfl (by rfl) (gY (n3 hcl2 (show j*14+14<=l.length*14 by omega) s2)) ?_;refine zM ?_;refine aE (n2 (KP (show -9223372036854775808<=((j+1:Nat):Int)-1/\((j+1:Nat):Int)-1<=9223372036854775807 from⟨by omega,by omega⟩)) (show((j+1:Nat):Int)-1=(j:Int) from by omega)) ?_;exact⟨j,_,by omega,zH,j,(p.set (j+1) y).set j x,⟨by rw[length_set,length_set,hpl],by omega⟩,by rw[hb,hbs],rfl,rfl⟩
theorem FT(g:FuncId)(cmp:bB->bB->Int)(hg:∀x y,PC Tryz.prog g [.ag (aF x),.ag (aF y)] (·=aa (cmp x y)))(c:Option Nat)(l:List bB)(hlen:l.length<20):
 SC Tryz.prog 152 [.buf 0 l.length 14 c,aa l.length,.fn g [] []] [.cells (l.flatMap aF)] [] (λr S'=>r=.bI []/\S'=[.cells ((pC (qI cmp) l).flatMap aF)]):=by
 have hins:=HD g cmp hg c l (by omega);have hrc:∀(g:Nat->Nat) (l:List bB),jM g (l.flatMap aF)=l.flatMap aF:=λg l=>aZ (aB cU l);have hbc:∀(B:Nat) (l:List bB),fc B (l.flatMap aF)=true:=λB l=>bu (aB cU l);have hkc:∀(o:Nat) (l:List bB),(l.flatMap aF).map (bf o)=l.flatMap aF:=λo l=>aW cU o l
 have h1:decide ((20:Int)<=(l.length:Int))=false:=by simp only[decide_eq_false_iff_not];omega
 have h2:decide ((20:Int)<(l.length:Int))=false:=by simp only[decide_eq_false_iff_not];omega
 refine Gk 63 Tryz.func152 ?_;refine kQ ?_
 (repeat refine ai.seq ?_)
 refine ai.block (ai.loop (λm st=>m=0/\st=⟨[(0,.buf 0 l.length 14 c),(1,aa l.length),(2,.fn g [] []),(6,aa 20),(7,aa 0),(8,aa 20),(1000000,.ptr 0 0)],63,[.cells (l.flatMap aF)],[]⟩) 0 zH ⟨rfl,rfl⟩ (by rintro m st ⟨_,rfl⟩;rfl) ?_);rintro m st ⟨rfl,rfl⟩;refine aE h1 ?_;refine zN ?_;refine ai.exit ?_
 (try change ai _ _ _ _ _)
 refine zC ?_;refine zS [0] (n3 hrc hbc hkc) hins ?_;refine zR ?_
 (repeat refine ai.seq ?_)
 refine ai.block (ai.loop (λm st=>m=0/\st=⟨[(1,aa l.length),(6,aa 20),(1000000,.ptr 0 0)],63,[.cells ((pC (qI cmp) l).flatMap aF)],[]⟩) 0 zH ⟨rfl,rfl⟩ (by rintro m st ⟨_,rfl⟩;rfl) ?_);rintro m st ⟨rfl,rfl⟩;refine aE h2 ?_;refine zN ?_;refine ai.exit ?_;simp only[iq,eB,df,cL,if_true];exact zP []
theorem Ad(g:FuncId)(cmp:bB->bB->Int)(hg:∀x y,PC Tryz.prog g [.ag (aF x),.ag (aF y)] (·=aa (cmp x y)))(c:Option Nat)(l:List bB)(hlen:l.length<20):
 SC Tryz.prog 114 [.buf 0 l.length 14 c,.fn g [] []] [.cells (l.flatMap aF)] [] (λr S'=>r=.bI []/\S'=[.cells ((pC (qI cmp) l).flatMap aF)]):=by
 have hins:=FT g cmp hg c l hlen;have hrc:∀(g:Nat->Nat) (l:List bB),jM g (l.flatMap aF)=l.flatMap aF:=λg l=>aZ (aB cU l);have hbc:∀(B:Nat) (l:List bB),fc B (l.flatMap aF)=true:=λB l=>bu (aB cU l);have hkc:∀(o:Nat) (l:List bB),(l.flatMap aF).map (bf o)=l.flatMap aF:=λo l=>aW cU o l;refine Gk 9 Tryz.func114 ?_;refine zC ?_;refine zS [0] (n3 hrc hbc hkc) hins ?_;refine zR ?_;exact zP []
theorem Bm(a:Int):PC Tryz.prog 115 [aa a] (·=aA false):=by
 refine pB 6 Tryz.func115 ?_;refine zV ?_;refine aE (show decide (a=a)=true from decide_eq_true rfl) ?_;refine zE ?_;exact zO [.tmp 2]
theorem Bn(a:List Nat):PC Tryz.prog 157 [ak a] (·=aA false):=by
 refine pB 6 Tryz.func157 ?_;refine zV ?_;refine aE (show decide (a=a)=true from decide_eq_true rfl) ?_;refine zE ?_;exact zO [.tmp 2]
def Ll(a b:Int):Int:=if a<b then -1 else if b<a then 1 else 0
theorem zF(a b:Int):PC Tryz.prog 75 [aa a,aa b] (·=aa (Ll a b)):=by
 refine pB 20 Tryz.func75 ?_;refine ki ?_;refine zK (Bm a) ?_;refine zR ?_;refine zC ?_;refine zK (Bm b) ?_;refine zR ?_;refine Gl ?_;refine Gl ?_;cases h1:decide (a<b);rotate_left
 ·refine aE h1 ?_;refine cE ?_;refine zE ?_;exact zO [.tmp 4] (hq:=by (try simp only[aC,ab]);first | done | (rw[Ll,if_pos (of_decide_eq_true h1)]))
 refine aE h1 ?_;refine zN ?_;cases h2:decide (b<a);rotate_left
 ·refine aE h2 ?_;refine cE ?_;refine zE ?_;exact zO [.tmp 4] (hq:=by (try simp only[aC,ab]);first | done | (rw[Ll,if_neg (of_decide_eq_false h1),if_pos (of_decide_eq_true h2)]))
 refine aE h2 ?_;refine gX ?_;refine zE ?_;exact zO [.tmp 4] (hq:=by (try simp only[aC,ab]);first | done | (rw[Ll,if_neg (of_decide_eq_false h1),if_neg (of_decide_eq_false h2)]))
def qF(a b:List Nat):Int:=if gk a b=true then -1 else if a=b then 0 else 1
theorem qU(a b:List Nat):PC Tryz.prog 121 [ak a,ak b] (·=aa (qF a b)):=by
 refine pB 20 Tryz.func121 ?_;refine ki ?_;refine zK (Bn a) ?_;refine zR ?_;refine zC ?_;refine zK (Bn b) ?_;refine zR ?_;refine Gl ?_;refine Gl ?_;cases h1:gk a b;rotate_left
 ·refine aE h1 ?_;refine cE ?_;refine zE ?_;exact zO [.tmp 4] (hq:=by (try simp only[aC,ab]);first | done | (rw[qF,if_pos h1]))
 refine aE h1 ?_;refine zN ?_;by_cases h2:a=b
 ·refine aE (n2 h1 (show tE a b=true by rw[mY];exact decide_eq_true h2)) ?_;refine gX ?_;refine zE ?_;exact zO [.tmp 4] (hq:=by (try simp only[aC,ab]);first | done | (rw[qF,if_neg (by rw[h1];decide),if_pos h2]))
 ·refine aE (n2 h1 (show tE a b=false by rw[mY];exact decide_eq_false h2)) ?_;refine cE ?_;refine zE ?_;exact zO [.tmp 4] (hq:=by (try simp only[aC,ab]);first | done | (rw[qF,if_neg (by rw[h1];decide),if_neg h2]))
def wY(a b:bB):Int:=Ll a.day b.day
theorem H0(a b:bB):PC Tryz.prog 74 [.ag (aF a),.ag (aF b)] (·=aa (wY a b)):=by
 refine pB 10 Tryz.func74 ?_;refine aE @aF.eq_1 ?_;refine zC ?_;refine zK (zF a.day b.day) ?_;refine zR ?_;refine zE ?_;exact zO [.tmp 4]
def bB.uQ:List AV:=[.int .i64 0,.int .i64 0,.str [],.str [],.str [],.str [],.str [],.str [],.int .i64 0,.int .i64 0,.int .i64 0,.int .i64 0,.int .i64 0,.int .i64 0]
theorem KI(n:Nat)(h:n<=1000000):eS Tryz.prog 42 (.int .i64 (n:Int)) (.int .i64 (n:Int))=some (n,14,n,rep bB.uQ n):=by
 have q1:(Tryz.prog.info? 76).map (λi=>(i.size,ble i.bytes 10000))=some (14,true):=by kernel_rfl
 obtain⟨i,hi,e⟩:=Option.map_eq_some_iff.1 q1;have e1:i.size=14:=congrArg Prod.fst e;have e2:ble i.bytes 10000=true:=congrArg Prod.snd e;unfold eS;rw[show Tryz.prog.underlying 42=some (.slice 76) by kernel_rfl];simp only;rw[show c9 (.int .i64 (n:Int))=some n from rfl,bind_some,bind_some,hi,bind_some,show dm Tryz.prog 76=some (.agg bB.uQ) by simp only[aw];rfl,bind_some,e1,e2,ek (le_refl n),ek h];rfl
theorem rp:∀n,(rep bB.uQ n).map SV.a=(replicate n bB.zero).flatMap aF
 | 0=>rfl
 | n+1=>by rw[rep,List.map_append,rp n,List.replicate_succ,flatMap_cons];rfl
def fW(l:List bB):List bB:=pC (qI wY) l
theorem Ac(l:List bB)(hlen:l.length<20):PC Tryz.prog 73 [an 14 l aF,.fn 74 [] []] (·=an 14 (fW l) aF):=by
 have hst:=Ad 74 wY H0 (some l.length) l hlen;have hrc:∀(g:Nat->Nat) (l:List bB),jM g (l.flatMap aF)=l.flatMap aF:=λg l=>aZ (aB cU l);have hbc:∀(B:Nat) (l:List bB),fc B (l.flatMap aF)=true:=λB l=>bu (aB cU l);have hkc:∀(o:Nat) (l:List bB),(l.flatMap aF).map (bf o)=l.flatMap aF:=λo l=>aW cU o l;refine pB 16 Tryz.func73 ?_;have hcl:=aJ cN l
 have hzl:((replicate l.length bB.zero).flatMap aF).length=l.length*14:=by rw[aJ cN,List.length_replicate]
 refine zV ?_;refine aE (n3 (KI l.length (by omega)) @rp hkc) ?_
 (repeat refine ai.seq ?_)
 refine ai.mono (Q:=λe st=>e=.normal/\Fg st ⟨[(1,.fn 74 [] []),(5,.buf 0 l.length 14 (some l.length))],16,[.cells (l.flatMap aF)],[]⟩) ?_ ?_
 ·by_cases h0:l.length=0
  ·have hl:l=[]:=List.length_eq_zero_iff.1 h0;subst hl;refine zV ?_;exact⟨rfl,zH⟩
  ·have htk:(l.flatMap aF).take (l.length*14)=l.flatMap aF:=cu cN l;have hmin:Nat.min l.length l.length=l.length:=Nat.min_self _;have hdr:((replicate l.length bB.zero).flatMap aF).drop (l.length*14)=[]:=List.drop_of_length_le (by rw[hzl];exact le_refl _);refine aE (n10 h0 hmin htk hzl hcl @le_refl @IC hdr @Nat.zero_add @append_nil.{0}) ?_;exact⟨rfl,zH⟩
 rintro e st ⟨rfl,hfg⟩;refine ai.fg hfg ?_;clear hfg
 (try change ai _ _ _ _ _)
 have hsl:(fW l).length=l.length:=by unfold fW;exact xC _ _
 refine zC ?_;refine zS [0] (n3 hrc hbc hkc) hst ?_;refine zR ?_;refine zV ?_;refine zE ?_;exact zO [.tmp 4] (r:=.sl l.length 14 ((fW l).flatMap aF)) (hw:=by exact .buf rfl (by rw[<-hsl];rw[show pC (qI wY) l=fW l from rfl,cu cN];exact bn.refl (aB cU _)) (by rw[show pC (qI wY) l=fW l from rfl,aJ cN,hsl];exact le_refl _)) (hq:=by (try simp only[aC,ab]);first | done | (rw[an,hsl]))
theorem FQ(l:List bB)(hlen:l.length<20):PC Tryz.prog 38 [an 14 l aF] (·=an 14 (fW l) aF):=by
 refine pB 5 Tryz.func38 ?_;refine ki ?_;refine zK (Ac l hlen) ?_ (hfl:=.inr (bn.refl rfl));refine zR ?_;refine zE ?_;exact zO [.tmp 2] (r:=an 14 (fW l) aF) (hw:=by exact Wk.refl rfl)
theorem yG{l:List (bB)}(p:bB->Bool){fid:FuncId}{first cap:List SV}(hlen:l.length<=1000000)(hp:∀x∈l,PC Tryz.prog fid ((first++[.ag (aF x)])++cap) (·=aA (p x)))(hg:cr first=true/\cr cap=true):PC Tryz.prog 72 [an 14 l aF,.fn fid first cap] (·=aa (jf p l)):=by
 refine pB 19 Tryz.func72 ?_;refine aE @an.eq_1 ?_;refine zV ?_;refine zs ?_;refine zL l (λk=>∀(i:Nat) y,i<k->l[i]?=some y->p y=false) (λk=>[(0,.sl l.length 14 (l.flatMap aF)),(1,.fn fid first cap),(7,aa l.length),(8,aa k)]) (λk=>[]) zH zp ?_;intro k hk hall;refine zV ?_;by_cases hlt:k<l.length;rotate_left;obtain rfl:k=l.length:=(by omega);rw[zf];rotate_left;rw[zt hlt];obtain⟨x,hx⟩:=zx hlt;rotate_left
 ·refine zN ?_;refine ai.exit ?_;refine zV ?_;refine zE ?_;exact zO [.tmp 4] (hq:=by (try simp only[aC,ab]);first | done | (rw[iW hall]))
 ·refine zY ?_
  (repeat refine ai.seq ?_)
  refine ai.block ?_;refine zV ?_;refine gl (n3 hlt (aH (e:=14) (enc:=aF) (λ_=>rfl) hx) @aF.eq_1) ?_;refine zK (hp x (List.mem_iff_getElem?.2 ⟨k,hx⟩)) ?_ (hwk:=((bn.refl hg.1).app (bn.refl rfl)).app (bn.refl hg.2));refine aM.nil ?_;change ai _ _ _ _ _;cases hpx:p x
  ·refine zN ?_;refine aE (zi hlt hlen) ?_;refine zX hlt zH ?_;intro i y hi hy;by_cases hik:i=k
   ·subst hik;rw[hx] at hy;cases hy;exact hpx
   ·exact hall i y (by omega) hy
  ·refine cE ?_;refine zE ?_;exact zO [.tmp 4] (hq:=by (try simp only[aC,ab]);first | done | (rw[mG hx hpx hall]))
theorem vC:∀n,(rep bB.uQ n).all j7=true
 | 0=>rfl
 | n+1=>by rw[rep,List.all_append,vC n];rfl
theorem JY{α:Type}{p:α->Bool}{l:List α}(h:jf p l ≠ -1):∃(k:Nat) (x:α),jf p l=(k:Int)/\l[k]?=some x/\p x=true/\∀(i:Nat) y,i<k->l[i]?=some y->p y=false:=by
 unfold jf at h ⊢
 cases hf:l.findIdx? p with
 | none=>rw[hf] at h;exact absurd rfl h
 | some k=>
  rw[List.findIdx?_eq_some_iff_getElem] at hf;obtain⟨hlt,h1,h2⟩:=hf;refine⟨k,l[k],rfl,getElem?_eq_getElem hlt,h1,λi y hi hy=>?_⟩;have:=h2 i hi;rw[getElem?_eq_getElem (by omega)] at hy;cases hy;simpa using this
theorem JZ{α:Type}{p:α->Bool}{l:List α}(h:jf p l = -1):∀x∈l,p x=false:=by
 unfold jf at h
 cases hf:l.findIdx? p with
 | none=>
  rw[List.findIdx?_eq_none_iff] at hf;exact hf
 | some k=>rw[hf] at h;simp only at h;omega
def eR(d:bB->Bool)(l:List bB):List bB:=l.filter λx=>!d x
theorem LO(d:bB->Bool)(l:List bB):(eR d l).length<=l.length:=List.length_filter_le _ _
theorem D9{d:bB->Bool}{l:List bB}(h:∀x∈l,d x=false):eR d l=l:=by
 unfold eR;rw[List.filter_eq_self];intro x hx;rw[h x hx];rfl
theorem AM{d:bB->Bool}{l:List bB}{j:Nat}{x:bB}(h:l[j]?=some x):eR d (l.take (j+1))=eR d (l.take j)++(if d x=true then [] else [x]):=by
 unfold eR;rw[bo h,List.filter_append];cases hd:d x<;>simp[hd]
theorem Hr(g:FuncId)(c2:List SV)(hg:cr c2=true)(d:bB->Bool)(hp:∀x,PC Tryz.prog g [.ag (aF x),.ip c2] (·=aA (d x))):
 SC Tryz.prog 35 [.e0 14,.fn g [] [.ptr 0 0]] [.cells c2] [] (λr S'=>r=.e0 14/\S'=[.cells c2]):=by
 have hidx:=yG (l:=[]) d (fid:=g) (first:=[]) (cap:=[.ip c2]) (by simp) (λx hx=>hp x) ⟨rfl,rfl⟩;rw[show jf d [] = -1 from rfl] at hidx;refine Gk 42 Tryz.func35 ?_;refine ki ?_;refine zK hidx ?_ (hwk:=.cons (.QH 14) (.cons (.fn .nil (.cons (.ptr rfl (bn.refl hg) (zero_le _)) .nil)) .nil));refine zR ?_;refine wy ?_;refine zV ?_;refine zE ?_;exact KO.of (rs:=[.tmp 4]) rfl rfl zl RF zd zg
set_option maxHeartbeats 1000000 in
theorem Hs(g:FuncId)(c2:List SV)(hg:cr c2=true)(d:bB->Bool)(hp:∀x,PC Tryz.prog g [.ag (aF x),.ip c2] (·=aA (d x)))(l:List bB)(hlen:l.length<=100000):
 SC Tryz.prog 35 [.buf 0 l.length 14 none,.fn g [] [.ptr 1 0]] [.cells (l.flatMap aF),.cells c2] [] (λr S'=>r=.buf 0 (eR d l).length 14 none/\S'=[.cells ((eR d l++replicate (l.length-(eR d l).length) bB.zero).flatMap aF),.cells c2]):=by
 have hidx:=yG (l:=l) d (fid:=g) (first:=[]) (cap:=[.ip c2]) (by omega) (λx hx=>hp x) ⟨rfl,rfl⟩;have hkc:∀(o:Nat) (l:List bB),(l.flatMap aF).map (bf o)=l.flatMap aF:=λo l=>aW cU o l;have hk2:∀o:Nat,c2.map (bf o)=c2:=λo=>bK hg;refine PQ 42 Tryz.func35 ?_;refine ki ?_;refine zK hidx ?_ (hwk:=.cons (.buf rfl (by rw[cu cN];exact bn.refl (aB cU l)) (by rw[aJ cN];exact le_refl _)) (.cons (.fn .nil (.cons (.ptr rfl (bn.refl hg) (zero_le _)) .nil)) .nil));refine zR ?_;by_cases hno:jf d l = -1
 ·have hall:=JZ hno;rw[hno];refine wy ?_;refine zV ?_;refine zE ?_;exact zP [.tmp 4] (hq:=by (try simp only[aC,ab]);first | done | (rw[D9 hall,Nat.sub_self,List.replicate_zero,append_nil];first | exact⟨rfl,rfl⟩ | exact⟨trivial,rfl⟩ | exact⟨rfl,trivial⟩ | exact⟨trivial,trivial⟩))
 obtain⟨k,x0,hk,hx0,hd0,hbef⟩:=JY hno;rw[hk];have hkl:k<l.length:=bl hx0;refine aE (show decide ((k:Int) = -1)=false by simp only[decide_eq_false_iff_not];omega) ?_;refine zN ?_;refine zs ?_;refine ai.r0 (by rfl) (gY (bA (k:Int) 1 (by omega))) ?_
 have hst:eR d (l.take (k+1))=l.take k:=by
  rw[AM hx0,if_pos hd0,append_nil];refine D9 λx hx=>?_;obtain⟨i,hi⟩:=List.mem_iff_getElem?.1 hx
  have hik:i<k:=by
   have:=bl hi;rw[length_take] at this;omega
  rw[List.getElem?_take,if_pos hik] at hi;exact hbef i x hik hi
 (repeat refine ai.seq ?_)
 refine ai.block (ai.loop (λm st=>∃(j i:Nat) (q:List bB),(i<j/\j<=l.length/\q.length=l.length)/\(q.take i=eR d (l.take j)/\q.drop j=l.drop j)/\l.length-j=m/\st=⟨[(0,.buf 0 l.length 14 none),(1,.fn g [] [.ptr 1 0]),(5,bX i),(6,bX j),(1000000,.ptr 0 0),(1000001,.ptr 1 0)],42,[.cells (q.flatMap aF),.cells c2],[]⟩) (l.length-(k+1)) (cI @cw) ⟨k+1,k,l,⟨Nat.lt_succ_self _,hkl,rfl⟩,⟨hst.symm,rfl⟩,rfl,rfl⟩ (by rintro m st ⟨j,i,q,_,_,_,rfl⟩;rfl) ?_);rintro m st ⟨j,i,q,⟨hij,hjl,hql⟩,⟨htk,hdr⟩,rfl,rfl⟩
 have hcl:(q.flatMap aF).length=l.length*14:=by rw[aJ cN,hql]
 refine zV ?_;by_cases hlt:j<l.length;rotate_left
 ·rw[show decide ((j:Int)<(l.length:Int))=false by simp only[decide_eq_false_iff_not];omega]
  obtain rfl:j=l.length:=by omega
  rw[List.take_length] at htk;refine zN ?_;refine ai.exit ?_
  have hkl2:(eR d l).length=i:=by rw[<-htk,length_take];omega
  have hrest:(q.flatMap aF).take (i*14)++((rep bB.uQ (l.length-i)).map SV.a++(q.flatMap aF).drop (i*14+(l.length-i)*14))=(eR d l++replicate (l.length-(eR d l).length) bB.zero).flatMap aF:=by
   rw[hkl2,rp,gA cN,htk,List.drop_of_length_le (by rw[hcl];omega),append_nil,List.flatMap_append]
  refine zs ?_;refine ai.r0 (by rfl) (by simp only[bx,aX,an,aw,bind_some,map_some,↓reduceIte,Nat.reduceEqDiff,Nat.reduceAdd,Nat.reduceMul,Nat.reduceLeDiff,Nat.reduceLT,ah,ao,aP,tN (show i<=l.length by omega),show ¬(l.length-i=0) by omega,show i*14+(l.length-i)*14<=l.length*14 by omega,hcl,show(rep [AV.int IntKind.i64 0,.int .i64 0,.str [],.str [],.str [],.str [],.str [],.str [],.int .i64 0,.int .i64 0,.int .i64 0,.int .i64 0,.int .i64 0,.int .i64 0] (l.length-i))=rep bB.uQ (l.length-i) from rfl,vC,hrest];first | done | rfl) ?_;refine zs ?_;refine ai.r0 (by rfl) (by simp only[bx,aX,an,aw,bind_some,map_some,↓reduceIte,Nat.reduceEqDiff,Nat.reduceAdd,Nat.reduceMul,Nat.reduceLeDiff,Nat.reduceLT,ah,ao,aP,rR (show i<=l.length by omega),Nat.sub_zero];first | done | rfl) ?_;refine zE ?_;exact KO.of (rs:=[.tmp 4]) rfl rfl zl (by (try simp only[aC,ab]);first | done | (rw[hkl2];first | exact⟨rfl,rfl⟩ | exact⟨trivial,rfl⟩ | exact⟨rfl,trivial⟩ | exact⟨trivial,trivial⟩)) zd zg
 rw[show decide ((j:Int)<(l.length:Int))=true by simp only[decide_eq_true_eq];omega];obtain⟨x,hx⟩:∃x,l[j]?=some x:=⟨l[j],getElem?_eq_getElem hlt⟩
 have hqx:q[j]?=some x:=by
  have:(q.drop j)[0]?=(l.drop j)[0]?:=by rw[hdr]
  rw[List.getElem?_drop,List.getElem?_drop,Nat.add_zero] at this;rw[this,hx]
 have hdr2:q.drop (j+1)=l.drop (j+1):=by
  have:=congrArg (List.drop 1) hdr;rw[List.drop_drop,List.drop_drop] at this;exact this
 have hsn:=AM (d:=d) hx;have ax:((q.flatMap aF).drop (j*14)).take 14=aF x:=aH (e:=14) (enc:=aF) (λ_=>rfl) hqx;rw[dg] at ax;have hpx:=hp x;rw[dg] at hpx;refine zY ?_
 (repeat refine ai.seq ?_)
 refine ai.block ?_;refine aE (n6 hlt hcl (show j*14+14<=l.length*14 by omega) ax hkc hk2) ?_;refine zC ?_;refine zK hpx ?_ (hwk:=.cons (.ag (bn.refl rfl)) (.cons (.ptr rfl (bn.refl hg) (zero_le _)) .nil));cases hd:d x
 ·have hil:i<q.length:=by omega
  have s1:=gN (enc:=aF) cN (l:=q) (i:=i) x hil;rw[dg] at s1;simp only[cons_append,nil_append] at s1;rw[hd,if_neg (by decide)] at hsn;refine zR ?_;refine zY ?_;refine aE (n4 (show i<l.length by omega) hcl (show i*14+14<=l.length*14 by omega) s1) ?_;refine zs ?_;refine ai.r0 (by rfl) (gY (bA (i:Int) 1 (by omega))) ?_;refine zs ?_;refine ai.r0 (by rfl) (gY (bA (j:Int) 1 (by omega))) ?_;refine⟨l.length-(j+1),_,by omega,(cI @cw),j+1,i+1,q.set i x,⟨by omega,by omega,by rw[length_set,hql]⟩,⟨?_,?_⟩,rfl,rfl⟩
  ·rw[hsn,<-htk,List.set_eq_take_append_cons_drop,if_pos hil,List.take_append,length_take,Nat.min_eq_left (by omega),List.take_take,Nat.min_eq_right (by omega),show i+1-i=1 by omega];rfl
  ·rw[List.drop_set,if_pos (by omega)];exact hdr2
 ·rw[hd,if_pos rfl,append_nil] at hsn;refine zR ?_;refine zN ?_;refine zs ?_;refine ai.r0 (by rfl) (gY (bA (j:Int) 1 (by omega))) ?_;exact⟨l.length-(j+1),_,by omega,(cI @cw),j+1,i,q,⟨by omega,by omega,hql⟩,⟨by rw[hsn,htk],hdr2⟩,rfl,rfl⟩
end Go.Proofs
