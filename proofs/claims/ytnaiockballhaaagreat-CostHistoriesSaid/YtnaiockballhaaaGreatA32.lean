/- A part of the texts of this claim: every theorem says what it proves, with its conditions. -/
import Derived.Test.YtnaiockballhaaaGreatA31
import Derived.Test.YtnaiockballhaaaGreatA23
set_option linter.unusedSimpArgs false
set_option linter.unusedVariables false
set_option linter.unusedSectionVars false
open Nat (reduceAdd reduceLT reduceEqDiff reduceLeDiff reduceMul reduceSub le_refl zero_le)
namespace Go.Proofs
open Go.Ev
set_option maxRecDepth 100000
theorem IZ{a:List Nat}:∀{l:List (List Nat)},j8 (a::l)=true->∀x∈l,gk a x=true
 | [],_,x,h=>by simp at h
 | b::r,ho,x,h=>by
  rw[j8,Bool.and_eq_true] at ho
  rcases List.mem_cons.1 h with rfl | h
  ·exact ho.1
  ·exact lI ho.1 (IZ ho.2 x h)
theorem Kk{a:List Nat}{l:List (List Nat)}(h:j8 (a::l)=true):j8 l=true:=by
 cases l with
 | nil=>rfl
 | cons b r=>rw[j8,Bool.and_eq_true] at h;exact h.2
theorem pY{α:Type}(key:α->List Nat):∀{l:List α},j8 (l.map key)=true->∀k:List Nat,(l.takeWhile λx=>gk (key x) k).length<=l.length/\∀(a:Nat) (x:α),l[a]?=some x->(gk (key x) k=true↔a<(l.takeWhile λx=>gk (key x) k).length)
 | [],_,k=>⟨le_refl _,λa x h=>by simp at h⟩
 | y::l,ho,k=>by
  have ih:=pY key (Kk ho) k;have hlt:=IZ (a:=key y) (l:=l.map key) ho
  cases h:gk (key y) k with
  | true=>
   rw[List.takeWhile_cons,if_pos h,List.length_cons,List.length_cons];refine⟨Nat.succ_le_succ ih.1,λa x hx=>?_⟩
   cases a with
   | zero=>simp only[List.getElem?_cons_zero,Option.some.injEq] at hx;subst hx;exact⟨λ_=>Nat.succ_pos _,λ_=>h⟩
   | succ a=>simp only[List.getElem?_cons_succ] at hx;rw[ih.2 a x hx];exact⟨Nat.succ_lt_succ,Nat.lt_of_succ_lt_succ⟩
  | false=>
   rw[List.takeWhile_cons,if_neg (by rw[h];decide),List.length_nil];refine⟨zero_le _,λa x hx=>⟨λhh=>?_,λhh=>absurd hh (Nat.not_lt_zero _)⟩⟩;exfalso
   cases a with
   | zero=>simp only[List.getElem?_cons_zero,Option.some.injEq] at hx;subst hx;rw[h] at hh;cases hh
   | succ a=>
    simp only[List.getElem?_cons_succ] at hx;have:=lI (hlt _ (List.mem_map_of_mem (List.mem_of_getElem? hx))) hh;rw[h] at this;cases this
def qt(l:List aG)(k:List Nat):Nat:=(l.takeWhile λx=>gk (aG.name x) k).length
def c7(l:List aG)(x:aG):List aG:=if eJ l (aG.name x) (qt l (aG.name x))=true then l.set (qt l (aG.name x)) x else l.take (qt l (aG.name x))++x::l.drop (qt l (aG.name x))
theorem Kn{l:List aG}(ho:j8 (l.map aG.name)=true)(k:List Nat):Af l k (qt l k):=
 ⟨(pY aG.name ho k).1,(pY aG.name ho k).2⟩
theorem vS(y:aG)(k:List Nat){g:FuncId}{cap:List SV}(hcap:cr cap=true)(hk:PC Tryz.prog g ([.ag (ae y)]++cap) (·=ak (aG.name y))):PC Tryz.prog 120 [.ag (ae y),ak k,.ip [.fn g [] cap]] (·=aa (qF (aG.name y) k)):=by
 refine pB 11 Tryz.func120 ?_;have hkc:=λo:Nat=>bK (o:=o) (bz y);have hxl:(ae y).length=14:=rfl;have hxt:(ae y).take 14=ae y:=rfl;refine aE hkc ?_;refine gl (n2 hxl hxt) ?_;refine zK hk ?_ (hwk:=bn.refl (iB (by simp only[cr,ld,bz];rfl) hcap));refine zQ ?_;refine zK (qU (aG.name y) k) ?_;refine zR ?_;refine zE ?_;exact zO [.tmp 5]
set_option maxHeartbeats 1000000 in
theorem C0(l:List aG)(hlen:l.length<=100000)(x:aG){g:FuncId}{cap:List SV}(hcap:cr cap=true)(hk:∀y,PC Tryz.prog g ([.ag (ae y)]++cap) (·=ak (aG.name y)))(ho:j8 (l.map aG.name)=true):
 PC Tryz.prog 79 [an 14 l ae,.ag (ae x),.fn g [] cap] (·=an 14 (Proofs.c7 l x) ae):=by
 refine pB 32 Tryz.func79 ?_;have hkc:=λo:Nat=>bK (o:=o) (bz x);have hkl:=λo:Nat=>aW (enc:=ae) bz o l;have hkp:=λo:Nat=>bK (o:=o) hcap;have hxl:(ae x).length=14:=rfl;have hxt:(ae x).take 14=ae x:=rfl;have hon:(ae x).all dU=true:=rfl;have hnk:∀o:Nat,bf o (.fn g [] cap)=.fn g [] cap:=λo=>uf (by rw[ld,hcap];rfl);have hnc:∀o:Nat,fF o cap=false:=λo=>du hcap;have hnx:∀o:Nat,fF o (ae x)=false:=λo=>du (bz x)
 have hgf:cr [SV.fn g [] cap]=true:=by rw[cr,ld,hcap];rfl
 have hbl:∀B:Nat,fc B (l.flatMap ae)=true:=λB=>bu (aB bz l);have hrl:∀r:Nat->Nat,jM r (l.flatMap ae)=l.flatMap ae:=λr=>aZ (aB bz l);have hbc:∀B:Nat,fc B (ae x)=true:=λB=>bu (bz x);have hrc:∀r:Nat->Nat,jM r (ae x)=ae x:=λr=>aZ (bz x);have hbq:∀(B:Nat) (q:List aG),fc B (q.flatMap ae)=true:=λB q=>bu (aB bz q);have hrq:∀(r:Nat->Nat) (q:List aG),jM r (q.flatMap ae)=q.flatMap ae:=λr q=>aZ (aB bz q);have hpart:=Kn ho (aG.name x);have hbs:=Fj l hlen (g:=120) (cap:=[.ip [.fn g [] cap]]) rfl (aG.name x) _ (λy _=>vS y (aG.name x) hcap (hk y)) hpart;generalize hpos:qt l (aG.name x)=pos at hpart hbs
 have hput:Proofs.c7 l x=if eJ l (aG.name x) pos=true then l.set pos x else l.take pos++x::l.drop pos:=by rw[Proofs.c7,hpos]
 refine aE (n4 hkc hnk hnc hnx) ?_;refine gl (n2 hxl hxt) ?_;refine zK (hk x) ?_ (hwk:=bn.refl (iB (by simp only[cr,ld,bz];rfl) hcap));refine zQ ?_;refine zK hbs ?_ (hwk:=.cons (.sl _ _ _) (.cons (.a _) (.cons (.fn .nil (.cons (.ptr rfl (bn.refl hgf) (zero_le _)) .nil)) .nil)));refine zR ?_;refine zC ?_;by_cases hne:l=[]
 ·subst hne
  have hf0:eJ [] (aG.name x) pos=false:=by unfold eJ;rw[List.getElem?_nil]
  have hp0:pos=0:=Nat.le_zero.1 hpart.le;rw[hf0] at hput ⊢;subst hp0;refine zS [] (n4 hkc hnk hnc hnx) vO ?_;refine zR ?_;refine Gl ?_;refine gl (n6 hxl hxt hkc hnk hnc hnx) ?_;refine zS [2] (n4 hkc hnk hnc hnx) (zU x) ?_;refine zR ?_;refine zE ?_;exact zO [.tmp 6] (r:=an 14 [x] ae) (hw:=zv) (hq:=by (try simp only[aC,ab]);first | done | (rw[hput];rfl))
 have hs:0<l.length:=Nat.pos_of_ne_zero (λe=>hne (List.length_eq_zero_iff.1 e));refine zS [] (n7 hkc hnk hnc hnx hkl hbl hrl) (oQ l (by omega) hne) ?_;refine zR ?_;refine zV ?_;cases hfd:eJ l (aG.name x) pos
 ·rw[hfd,if_neg (by decide)] at hput;refine zN ?_;refine gl (n7 hxl hxt hkc hnk hnc hnx hkl) ?_;refine aM.sk [3,4] (by rfl) rfl rfl (by rfl) rfl zc (CJ l pos x hpart.le hs hlen) (by simp only[ec,aX,an,↓reduceIte,reduceEqDiff,reduceAdd,reduceSub,reduceMul,reduceLeDiff,reduceLT,hkc,hnk,hnc,hnx,hkl,hbl,hrl,hrc,hbc,hrq,hbq];first | done | rfl) rfl (by decide) (by simp only[rb,ec,aX,an,hkc,hnk,hnc,hnx,hkl,hbl,hrl,hrc,hbc,hrq,hbq]<;>(repeat' apply And.intro)<;>first | trivial | rfl | (intro hh;cases hh)) (by simp only[vN,ec,aX,an,reduceAdd,reduceLT,decide_true,hkc,hnk,hnc,hnx,hkl,hbl,hrl,hrc,hbc,hrq,hbq];first | done | rfl) (by simp only[vN,ec,aX,an,reduceAdd,reduceLT,decide_true,hkc,hnk,hnc,hnx,hkl,hbl,hrl,hrc,hbc,hrq,hbq];first | done | rfl) (by simp only[ec,aX,an,↓reduceIte,reduceEqDiff,reduceAdd,reduceSub,reduceMul,reduceLeDiff,reduceLT,hkc,hnk,hnc,hnx,hkl,hbl,hrl,hrc,hbc,hrq,hbq];first | done | rfl) (by simp only[ec,aX,an,↓reduceIte,reduceEqDiff,reduceAdd,reduceSub,reduceMul,reduceLeDiff,reduceLT,hkc,hnk,hnc,hnx,hkl,hbl,hrl,hrc,hbc,hrq,hbq,dz,dq,bP,bf,bx];first | done | rfl) (by simp only[ec,aX,an,↓reduceIte,reduceEqDiff,reduceAdd,reduceSub,reduceMul,reduceLeDiff,reduceLT,hkc,hnk,hnc,hnx,hkl,hbl,hrl,hrc,hbc,hrq,hbq,dz,dq,bP,bf,bx];first | done | rfl) ?_;refine zR ?_;refine zE ?_;exact zO [.tmp 6] (r:=an 14 (l.take pos++x::l.drop pos) ae) (hw:=zv) (hq:=by (try simp only[aC,ab]);first | done | (rw[hput]))
 ·rw[hfd,if_pos rfl] at hput;refine zY ?_
  have hlt:pos<l.length:=by
   apply Decidable.byContradiction;intro hn;unfold eJ at hfd;rw[List.getElem?_eq_none (by omega)] at hfd;cases hfd
  have hcl:(l.flatMap ae).length=l.length*14:=aJ (enc:=ae) (e:=14) (λ_=>rfl) l;have hst:=gN (enc:=ae) (e:=14) (λ_=>rfl) x hlt;refine aE (n7 hlt hxl hxt hcl (show pos*14+14<=l.length*14 by omega) hon hst) ?_;refine zV ?_;have hsl:(l.set pos x).length=l.length:=List.length_set;refine zE ?_;exact zO [.tmp 6] (r:=.sl l.length 14 ((l.set pos x).flatMap ae)) (hw:=by exact .buf rfl (by rw[<-hsl,cu (enc:=ae) (e:=14) (λ_=>rfl)];exact bn.refl (aB bz _)) (by rw[aJ (enc:=ae) (e:=14) (λ_=>rfl),hsl];exact le_refl _)) (hq:=by (try simp only[aC,ab]);first | done | (rw[hput,an,hsl]))
def qu(l:List bG)(k:List Nat):Nat:=(l.takeWhile λx=>gk (bG.key x) k).length
def lA(l:List bG)(x:bG):List bG:=if fj l (bG.key x) (qu l (bG.key x))=true then l.set (qu l (bG.key x)) x else l.take (qu l (bG.key x))++x::l.drop (qu l (bG.key x))
theorem Ko{l:List bG}(ho:j8 (l.map bG.key)=true)(k:List Nat):Ag l k (qu l k):=
 ⟨(pY bG.key ho k).1,(pY bG.key ho k).2⟩
theorem vT(y:bG)(k:List Nat){g:FuncId}{cap:List SV}(hcap:cr cap=true)(hk:PC Tryz.prog g ([.ag (ar y)]++cap) (·=ak (bG.key y))):PC Tryz.prog 128 [.ag (ar y),ak k,.ip [.fn g [] cap]] (·=aa (qF (bG.key y) k)):=by
 refine pB 11 Tryz.func128 ?_;have hkc:=λo:Nat=>bK (o:=o) (bR y);have hxl:(ar y).length=2:=rfl;have hxt:(ar y).take 2=ar y:=rfl;refine aE hkc ?_;refine gl (n2 hxl hxt) ?_;refine zK hk ?_ (hwk:=bn.refl (iB (by simp only[cr,ld,bR];rfl) hcap));refine zQ ?_;refine zK (qU (bG.key y) k) ?_;refine zR ?_;refine zE ?_;exact zO [.tmp 5]
set_option maxHeartbeats 1000000 in
theorem C1(l:List bG)(hlen:l.length<=100000)(x:bG){g:FuncId}{cap:List SV}(hcap:cr cap=true)(hk:∀y,PC Tryz.prog g ([.ag (ar y)]++cap) (·=ak (bG.key y)))(ho:j8 (l.map bG.key)=true):
 PC Tryz.prog 88 [an 2 l ar,.ag (ar x),.fn g [] cap] (·=an 2 (Proofs.lA l x) ar):=by
 refine pB 32 Tryz.func88 ?_;have hkc:=λo:Nat=>bK (o:=o) (bR x);have hkl:=λo:Nat=>aW (enc:=ar) bR o l;have hkp:=λo:Nat=>bK (o:=o) hcap;have hxl:(ar x).length=2:=rfl;have hxt:(ar x).take 2=ar x:=rfl;have hon:(ar x).all dU=true:=rfl;have hnk:∀o:Nat,bf o (.fn g [] cap)=.fn g [] cap:=λo=>uf (by rw[ld,hcap];rfl);have hnc:∀o:Nat,fF o cap=false:=λo=>du hcap;have hnx:∀o:Nat,fF o (ar x)=false:=λo=>du (bR x)
 have hgf:cr [SV.fn g [] cap]=true:=by rw[cr,ld,hcap];rfl
 have hbl:∀B:Nat,fc B (l.flatMap ar)=true:=λB=>bu (aB bR l);have hrl:∀r:Nat->Nat,jM r (l.flatMap ar)=l.flatMap ar:=λr=>aZ (aB bR l);have hbc:∀B:Nat,fc B (ar x)=true:=λB=>bu (bR x);have hrc:∀r:Nat->Nat,jM r (ar x)=ar x:=λr=>aZ (bR x);have hbq:∀(B:Nat) (q:List bG),fc B (q.flatMap ar)=true:=λB q=>bu (aB bR q);have hrq:∀(r:Nat->Nat) (q:List bG),jM r (q.flatMap ar)=q.flatMap ar:=λr q=>aZ (aB bR q);have hpart:=Ko ho (bG.key x);have hbs:=Fk l hlen (g:=128) (cap:=[.ip [.fn g [] cap]]) rfl (bG.key x) _ (λy _=>vT y (bG.key x) hcap (hk y)) hpart;generalize hpos:qu l (bG.key x)=pos at hpart hbs
 have hput:Proofs.lA l x=if fj l (bG.key x) pos=true then l.set pos x else l.take pos++x::l.drop pos:=by rw[Proofs.lA,hpos]
 refine aE (n4 hkc hnk hnc hnx) ?_;refine gl (n2 hxl hxt) ?_;refine zK (hk x) ?_ (hwk:=bn.refl (iB (by simp only[cr,ld,bR];rfl) hcap));refine zQ ?_;refine zK hbs ?_ (hwk:=.cons (.sl _ _ _) (.cons (.a _) (.cons (.fn .nil (.cons (.ptr rfl (bn.refl hgf) (zero_le _)) .nil)) .nil)));refine zR ?_;refine zC ?_;by_cases hne:l=[]
 ·subst hne
  have hf0:fj [] (bG.key x) pos=false:=by unfold fj;rw[List.getElem?_nil]
  have hp0:pos=0:=Nat.le_zero.1 hpart.le;rw[hf0] at hput ⊢;subst hp0;refine zS [] (n4 hkc hnk hnc hnx) vP ?_;refine zR ?_;refine Gl ?_;refine gl (n6 hxl hxt hkc hnk hnc hnx) ?_;refine zS [2] (n4 hkc hnk hnc hnx) (zW x) ?_;refine zR ?_;refine zE ?_;exact zO [.tmp 6] (r:=an 2 [x] ar) (hw:=zv) (hq:=by (try simp only[aC,ab]);first | done | (rw[hput];rfl))
 have hs:0<l.length:=Nat.pos_of_ne_zero (λe=>hne (List.length_eq_zero_iff.1 e));refine zS [] (n7 hkc hnk hnc hnx hkl hbl hrl) (vQ l (by omega) hne) ?_;refine zR ?_;refine zV ?_;cases hfd:fj l (bG.key x) pos
 ·rw[hfd,if_neg (by decide)] at hput;refine zN ?_;refine gl (n7 hxl hxt hkc hnk hnc hnx hkl) ?_;refine aM.sk [3,4] (by rfl) rfl rfl (by rfl) rfl zc (CK l pos x hpart.le hs hlen) (by simp only[ec,aX,an,↓reduceIte,reduceEqDiff,reduceAdd,reduceSub,reduceMul,reduceLeDiff,reduceLT,hkc,hnk,hnc,hnx,hkl,hbl,hrl,hrc,hbc,hrq,hbq];first | done | rfl) rfl (by decide) (by simp only[rb,ec,aX,an,hkc,hnk,hnc,hnx,hkl,hbl,hrl,hrc,hbc,hrq,hbq]<;>(repeat' apply And.intro)<;>first | trivial | rfl | (intro hh;cases hh)) (by simp only[vN,ec,aX,an,reduceAdd,reduceLT,decide_true,hkc,hnk,hnc,hnx,hkl,hbl,hrl,hrc,hbc,hrq,hbq];first | done | rfl) (by simp only[vN,ec,aX,an,reduceAdd,reduceLT,decide_true,hkc,hnk,hnc,hnx,hkl,hbl,hrl,hrc,hbc,hrq,hbq];first | done | rfl) (by simp only[ec,aX,an,↓reduceIte,reduceEqDiff,reduceAdd,reduceSub,reduceMul,reduceLeDiff,reduceLT,hkc,hnk,hnc,hnx,hkl,hbl,hrl,hrc,hbc,hrq,hbq];first | done | rfl) (by simp only[ec,aX,an,↓reduceIte,reduceEqDiff,reduceAdd,reduceSub,reduceMul,reduceLeDiff,reduceLT,hkc,hnk,hnc,hnx,hkl,hbl,hrl,hrc,hbc,hrq,hbq,dz,dq,bP,bf,bx];first | done | rfl) (by simp only[ec,aX,an,↓reduceIte,reduceEqDiff,reduceAdd,reduceSub,reduceMul,reduceLeDiff,reduceLT,hkc,hnk,hnc,hnx,hkl,hbl,hrl,hrc,hbc,hrq,hbq,dz,dq,bP,bf,bx];first | done | rfl) ?_;refine zR ?_;refine zE ?_;exact zO [.tmp 6] (r:=an 2 (l.take pos++x::l.drop pos) ar) (hw:=zv) (hq:=by (try simp only[aC,ab]);first | done | (rw[hput]))
 ·rw[hfd,if_pos rfl] at hput;refine zY ?_
  have hlt:pos<l.length:=by
   apply Decidable.byContradiction;intro hn;unfold fj at hfd;rw[List.getElem?_eq_none (by omega)] at hfd;cases hfd
  have hcl:(l.flatMap ar).length=l.length*2:=aJ (enc:=ar) (e:=2) (λ_=>rfl) l;have hst:=gN (enc:=ar) (e:=2) (λ_=>rfl) x hlt;refine aE (n7 hlt hxl hxt hcl (show pos*2+2<=l.length*2 by omega) hon hst) ?_;refine zV ?_;have hsl:(l.set pos x).length=l.length:=List.length_set;refine zE ?_;exact zO [.tmp 6] (r:=.sl l.length 2 ((l.set pos x).flatMap ar)) (hw:=by exact .buf rfl (by rw[<-hsl,cu (enc:=ar) (e:=2) (λ_=>rfl)];exact bn.refl (aB bR _)) (by rw[aJ (enc:=ar) (e:=2) (λ_=>rfl),hsl];exact le_refl _)) (hq:=by (try simp only[aC,ab]);first | done | (rw[hput,an,hsl]))
end Go.Proofs
