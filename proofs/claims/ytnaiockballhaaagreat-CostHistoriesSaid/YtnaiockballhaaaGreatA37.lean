/- A part of the texts of this claim: every theorem says what it proves, with its conditions. -/
import Derived.Test.YtnaiockballhaaaGreatA36
import Derived.Test.YtnaiockballhaaaGreatA23
import Derived.Test.YtnaiockballhaaaGreatA21
set_option linter.unusedSimpArgs false
set_option linter.unusedVariables false
set_option linter.unusedSectionVars false
namespace Go.Proofs
open Go.Ev
set_option maxRecDepth 100000
def jq(l:List bq):Nat:=l.countP λr=>decide (1<bp r)
def fh(c:List aU)(l:List bq):Int:=if mX c=true then (if (l.all λr=>!(decide (bp r=0)))=true then (if (30:Int)<(jq l:Int) then 7 else 0) else 1) else 1
set_option maxHeartbeats 1000000 in
theorem zn(c:List aU)(l:List bq)(hc:jJ c)(hl:∀r∈l,ea r)(hlen:l.length<=1000000):PC Tryz.prog 30 [.ag [an 3 c aq],an 2 l aD] (·=aa (fh c l)):=by
 refine pB 31 Tryz.func30 ?_;refine ki ?_;refine zK (mU c hc) ?_;cases h1:mX c
 ·refine cS h1 ?_;refine cE ?_;refine zE ?_;exact zO [.tmp 4] (hq:=by (try simp only[aC,ab]);first | done | (rw[show fh c l=1 by simp[fh,h1]]))
 refine cS h1 ?_;refine gX ?_;refine zV ?_;refine zs ?_;refine zL l (λk=>((l.take k).all λr=>!(decide (bp r=0)))=true) (λk=>[(5,aa (jq (l.take k))),(12,an 2 l aD),(13,aa l.length),(14,aa k)]) (λk=>[]) (Fg.less (by (simp only[bx,aX,cw,↓reduceIte,Nat.reduceEqDiff,an,List.take_zero,jq,List.countP_nil])<;>(repeat' apply And.intro)<;>first | rfl | trivial) (by (simp only[bx,aX,or_true,true_or,an,List.take_zero,jq,List.countP_nil])<;>(repeat' apply And.intro)<;>first | exact .inr rfl | exact .inl rfl | trivial)) zp ?_;intro k hk hall;refine zV ?_;by_cases hlt:k<l.length;rotate_left;obtain rfl:k=l.length:=(by omega);rw[zf];rotate_left;rw[zt hlt];obtain⟨r,hx⟩:=zx hlt;rotate_left
 ·refine zN ?_;refine ai.exit ?_;rw[List.take_length] at hall ⊢
  have hN:fh c l=if (30:Int)<(jq l:Int) then 7 else 0:=by rw[fh,h1,if_pos rfl,if_pos hall]
  cases h2:decide ((30:Int)<(jq l:Int))
  ·refine aE h2 ?_;refine gX ?_;refine zE ?_;exact zO [.tmp 4] (hq:=by (try simp only[aC,ab]);first | done | (rw[hN,if_neg (of_decide_eq_false h2)]))
  ·refine aE h2 ?_;refine cE ?_;refine zE ?_;exact zO [.tmp 4] (hq:=by (try simp only[aC,ab]);first | done | (rw[hN,if_pos (of_decide_eq_true h2)]))
 have hrk:ea r:=hl r (List.mem_of_getElem? hx);have hr1:=hrk.len;have ht:=bo hx;have hdl:jq (l.take k)<=k:=Nat.le_trans List.countP_le_length (by rw[List.length_take];omega)
 have hd1:jq (l.take (k+1))=jq (l.take k)+if 1<bp r then 1 else 0:=by
  unfold jq;rw[ht,List.countP_append];by_cases h:1<bp r<;>simp[h]
 generalize jq (l.take k)=dd at hd1 hdl ⊢;refine zY ?_
 (repeat refine ai.seq ?_)
 refine ai.block ?_;refine aE (n3 hlt (aH (e:=2) (enc:=aD) (λ_=>rfl) hx) @aD.eq_1) ?_;refine zC ?_;refine zK (gS r hrk) ?_;refine zR ?_
 (repeat refine ai.seq ?_)
 refine ai.block ?_;cases g0:decide (bp r=0);rotate_left
 ·refine aE g0 ?_;refine cE ?_;refine zE ?_;exact zO [.tmp 4] (hq:=by (try simp only[aC,ab]);first | done | (rw[show fh c l=1 by rw[fh,h1,if_pos rfl,if_neg (λh=>by have:=List.all_eq_true.1 h r (List.mem_of_getElem? hx);rw[g0] at this;cases this)]]))
 refine aE g0 ?_;refine zN ?_
 have hall2:((l.take (k+1)).all λr=>!(decide (bp r=0)))=true:=by
  rw[ht,List.all_append,hall];show(true&&(!(decide (bp r=0))&&true))=true;rw[g0];rfl
 cases g1:decide (1<bp r)
 ·rw[if_neg (of_decide_eq_false g1),Nat.add_zero] at hd1;refine aE g1 ?_;refine zN ?_;refine aE (zi hlt hlen) ?_;refine zX hlt (cI hd1) hall2
 ·rw[if_pos (of_decide_eq_true g1)] at hd1;refine aE g1 ?_;refine zY ?_;refine zs ?_;refine ai.r0 (by rfl) (gY (bA (dd:Int) 1 (by omega))) ?_;refine aE (zi hlt hlen) ?_;refine zX hlt (cI (n2 hd1 @cw)) hall2
theorem LK(l:List Int):(l.flatMap (az aa)).all dU=true:=nz (λ_=>rfl) l
theorem Ox(o:Option Nat):SC Tryz.prog 68 [.buf 0 0 1 o] [.cells []] [] (λr S'=>r=.buf 1 0 1 (some 0)/\S'=[.cells [],.cells []]):=by
 refine Gk 6 Tryz.func68 ?_;refine zV ?_;refine zs ?_;refine ai.r0 (by rfl) (gY (n2 @List.length_nil.{0} @List.map_nil.{0,0})) ?_;refine zE ?_;exact zP [.tmp 2]
theorem CC(ch:List Int)(h0:ch≠[])(hlen:ch.length<=1000000)(o:Option Nat):SC Tryz.prog 68 [.buf 0 ch.length 1 o] [.cells (ch.flatMap (az aa))] [] (λr S'=>r=.buf 1 ch.length 1 none/\S'=[.cells (ch.flatMap (az aa)),.cells (ch.flatMap (az aa))]):=by
 refine Gk 6 Tryz.func68 ?_;have hcl:=aJ (enc:=az aa) (e:=1) (λ_=>rfl) ch;have hal:=cu (enc:=az aa) (e:=1) (λ_=>rfl) ch;have hon:=LK ch;have hkc:=λo=>aW (enc:=az aa) (λ_=>rfl) o ch;rw[Nat.mul_one] at hal hcl;have h1:¬ch.length=0:=λe=>h0 (List.length_eq_zero_iff.1 e);have hp0:0<ch.length:=Nat.pos_of_ne_zero h1;have hrc:∀r:Nat->Nat,jM r (ch.flatMap (az aa))=ch.flatMap (az aa):=λr=>aZ (aB (λ_=>rfl) _);refine zV ?_;refine aE (n9 h1 hp0 hlen hon hkc hal hcl @Nat.mul_one @Nat.le_refl) ?_;refine ai.fg (st':=⟨[(2,.buf 1 ch.length 1 none),(1000000,.ptr 0 0)],6,[.cells (ch.flatMap (az aa)),.cells (ch.flatMap (az aa))],[]⟩) (Fg.rn [0,2] (by decide) rfl (Ic hrc) (Ie hrc)) ?_;refine zE ?_;exact zP [.tmp 2]
def Fa(ch:List Int):Nat->Nat->Nat
 | 0,k=>k
 | f+1,k=>match ch[k]? with
  | some n=>if 0<=n then Fa ch f (k+1) else k
  | none=>k
def mR(ch:List Int)(k:Nat):Nat:=Fa ch (ch.length-k) k
theorem Kw{ch:List Int}{k:Nat}{n:Int}(h:ch[k]?=some n)(hn:0<=n):mR ch k=mR ch (k+1):=by
 have:=bl h;unfold mR;rw[show ch.length-k=ch.length-(k+1)+1 by omega,Fa,h];simp only[if_pos hn]
theorem Kv{ch:List Int}{k:Nat}{n:Int}(h:ch[k]?=some n)(hn:¬0<=n):mR ch k=k:=by
 have:=bl h;unfold mR;rw[show ch.length-k=ch.length-(k+1)+1 by omega,Fa,h];simp only[if_neg hn]
theorem Ku{ch:List Int}{k:Nat}(h:ch.length<=k):mR ch k=k:=by
 unfold mR;rw[show ch.length-k=0 by omega,Fa]
def rA(g:Nat->List (List Int)->Bool×List (List Int)):Nat->Nat->List (List Int)->Bool×List (List Int)
 | 0,_,out=>(true,out)
 | m+1,n,out=>if (g n out).1=true then rA g m (n+1) (g n out).2 else (false,(g n out).2)
def fk(c:List aU)(l:List bq)(most:Int):Nat->Nat->List Int->List (List Int)->Bool×List (List Int)
 | 0,_,_,out=>(true,out)
 | F+1,i,ch,out=>if tW c l ch=true then (true,out) else match l[mR ch i]? with
  | none=>if M6 c l ch=true then (!(decide ((out.length:Int)+1=most)),out++[ch]) else (true,out)
  | some r=>rA (λn out=>fk c l most F (mR ch i+1) (ch.set (mR ch i) n) out) (bp r).toNat 0 out
theorem Js{g:Nat->List (List Int)->Bool×List (List Int)}{most:Int}(hg:∀n out,(out.length:Int)<most->(g n out).1=true->((g n out).2.length:Int)<most):∀(m n:Nat) (out:List (List Int)),(out.length:Int)<most->(rA g m n out).1=true->((rA g m n out).2.length:Int)<most
 | 0,n,out,h,_=>by rw[rA];exact h
 | m+1,n,out,h,ht=>by
  rw[rA] at ht ⊢;split at ht
  ·rename_i h1;rw[if_pos h1];exact Js hg m (n+1) _ (hg n out h h1) ht
  ·cases ht
theorem xr{c:List aU}{l:List bq}{most:Int}:∀(F i:Nat) (ch:List Int) (out:List (List Int)),(out.length:Int)<most->(fk c l most F i ch out).1=true->((fk c l most F i ch out).2.length:Int)<most
 | 0,i,ch,out,h,_=>by rw[fk];exact h
 | F+1,i,ch,out,h,ht=>by
  rw[fk] at ht ⊢;split
  ·exact h
  ·rename_i h1;rw[if_neg h1] at ht;split
   ·rename_i h2;rw[h2] at ht;simp only at ht;split
    ·rename_i h3;rw[if_pos h3] at ht;simp only[Bool.not_eq_true',decide_eq_false_iff_not] at ht;rw[List.length_append];show((out.length+1:Nat):Int)<most;omega
    ·exact h
   ·rename_i r h2;rw[h2] at ht;exact Js (λn out h h2=>xr F _ _ _ h h2) _ _ _ h ht
def dD(ch:List Int):List SV:=[an 1 ch (az aa)]
theorem qa(ch:List Int):(dD ch).length=1:=rfl
theorem lE(ch:List Int):cr (dD ch)=true:=rfl
def qJ(out:List (List Int)):SO:=if out=[] then .gone else .cells (out.flatMap dD)
theorem Ma{l:List (List Int)}(h:¬l=[]):qJ l=.cells (l.flatMap dD):=if_neg h
theorem Cb:qJ []=.gone:=rfl
theorem kK(o:Nat)(l:List (List Int)):bP o (qJ l)=qJ l:=by
 unfold qJ;split
 ·rfl
 ·rw[bP,aW lE]
theorem iS(r:Nat->Nat)(l:List (List Int)):nO r (qJ l)=qJ l:=by
 unfold qJ;split
 ·rfl
 ·show SO.cells (jM r _)=_;rw[aZ (aB lE l)]
theorem fC(B:Nat)(l:List (List Int)):kD B (qJ l)=true:=by
 unfold qJ;split
 ·rfl
 ·exact bu (aB lE l)
def cB(lc:fP)(most:Int)(ok:Bool):SO:=.loop lc (cond ok .ready .done) (cond ok none (some (.exit 0))) [(5,.ip [aa most]),(9,.ptr 1 0)]
theorem lT(o:Nat)(lc:fP)(most:Int)(ok:Bool)(h:¬1=o):bP o (cB lc most ok)=cB lc most ok:=by
 simp[cB,bP,dz,bf,Ev.names,fF,h]
theorem yb(r:Nat->Nat)(lc:fP)(most:Int)(ok:Bool)(h:r 1=1):nO r (cB lc most ok)=cB lc most ok:=by
 show SO.loop lc _ _ [(5,SV.ip [aa most]),(9,SV.ptr (r 1) 0)]=_;rw[h];rfl
theorem tM(B:Nat)(lc:fP)(most:Int)(ok:Bool)(h:1<B):kD B (cB lc most ok)=true:=by
 simp[cB,kD,BI,dx,fc,h]
def aT(c:List aU)(l:List bq)(lc:fP):SV:=.fn 65 [] [.ip [an 3 c aq],.ip [an 2 l aD],.ptr 3 0,.ip [.a (.fn (.yield lc.id) [] [])],.ptr 5 0]
def Pa(c:List aU)(l:List bq)(lc:fP)(most:Int)(ok:Bool)(out:List (List Int))(ch:List Int):List SO:=
 [cB lc most ok,.cells [bm 2 1 out.length],qJ out,.cells [.buf 4 ch.length 1 (some ch.length)],.cells (ch.flatMap (az aa)),.cells [aT c l lc]]
def nv:Code->Option (Code×Code)
 | .seq a b=>match nv a with
  | some x=>some x
  | none=>nv b
 | .block _ c=>nv c
 | .rangeFunc _ _ a b=>some (a,b)
 | _=>none
def rJ(lc:fP):Prop:=(Tryz.prog.funcs[(8:Nat)]?.bind λfn=>fn.body.bind nv)=some (lc.a,lc.b)
end Go.Proofs
