/- A part of the texts of this claim: every theorem says what it proves, with its conditions. -/
import Derived.Test.YtnaiockballhaaaGreatA21
import Derived.Test.YtnaiockballhaaaGreatA8
import Derived.Test.YtnaiockballhaaaGreatProg
import Derived.KernelRfl
import Derived.MapKept
set_option linter.unusedSimpArgs false
set_option linter.unusedVariables false
set_option linter.unusedSectionVars false
open Bool (and_eq_true)
open Nat (le_of_lt le_refl zero_add zero_le)
open List (getElem?_eq_getElem mem_iff_getElem?)
open Option (bind_some)
namespace Go.Ev
noncomputable section
section
variable {P:Program} {ro:Option Nat}
theorem PC.body(hng:rK P){g:FuncId}{fn:Func}{c:Code}{args:List SV}{Q:SV->Prop}(hf:P.funcs[g]?=some fn)(hb:fn.body=some c){n:Nat}(hn:args.length+(fn.ntmps-args.length)=n)
 (hw:ai P none c ⟨jI 0 args,n,[],[]⟩ (tH P fn Q)) (hlim:n<=1000000:=by exact Nat.le_of_ble_eq_true rfl):PC P g args Q:=
 .qM hng hf hb hn hlim (hw.mono λe st ⟨h1,h2,h3⟩=>⟨h1,by rw[h2];exact h3⟩)
theorem SC.body(hng:rK P){g:FuncId}{fn:Func}{c:Code}{args:List SV}{S0:List SO}{mv:List Nat}{Q:SV->List SO->Prop}(hf:P.funcs[g]?=some fn)(hb:fn.body=some c){n:Nat}(hn:args.length+(fn.ntmps-args.length)=n)(hlim:n<=1000000){W:Fm}(hW:W=ng S0.length)
 (hw:ai P none c ⟨jI 0 args++W,n,S0,[]⟩ (KO P fn S0.length mv Q)) (hK:S0.length<=1000000:=by exact Nat.le_of_ble_eq_true rfl):SC P g args S0 mv Q:=
 .qM hng hf hb hn hlim hW hK (hw.mono λe st ⟨h1,h2,h3⟩=>⟨h1,by rw[h2];exact h3⟩)
theorem LZ{ol:List Oper}{L:Nat->Prop}(hb:lL 0 ol=true)(hc:jh ol L){j:Nat}:∀(i:Nat) (o:Oper),ol[i]?=some o->(∀e∈o.after.toList,dep e=true->L e.on)->eh ((pG ol []).getD i 0) j=true->L j:=by
 intro i
 induction i using Nat.strongRecOn with
 | _ i ih=>
  intro o ho hd hj;have hlt:=λe he hde=>nS hb ho e he hde;simp only[zero_add] at hlt;obtain⟨e,he,hde,h | h⟩:=GY ho hlt hj
  ·exact h▸hd e he hde
  ·have hl:=hlt e he hde;obtain⟨o',ho'⟩:∃o',ol[e.on]?=some o':=⟨_,getElem?_eq_getElem (Nat.lt_trans hl (bl ho))⟩;exact ih e.on hl o' ho' (hc _ _ ho' (hd e he hde)) h
structure TS where
 b:Bool
 hp:List Nat
 f:Fm
 S:List SO
inductive JA (P:Program) (all:List Oper) (ms:List Nat) (n i:Nat) (o:Oper):TS->TS->Prop
 | s {b hp f S d}:eH all n [o]=true->o.dst=some d->da all f o.guard=some false->kI o.op=false->JA P all ms n i o ⟨b,hp,f,S⟩ ⟨b,hp,(d,.a kh)::f,S⟩
 | r {b hp f S d v}:eH all n [o]=true->o.dst=some d->da all f o.guard=some true->m7 o.op=true->(∀S2,db P f S2 o.op=some (v,S2,none))->JA P all ms n i o ⟨b,hp,f,S⟩ ⟨b,hp,(d,v)::f,S⟩
 | h {hp f S d v}:eH all n [o]=true->o.dst=some d->da all f o.guard=some true->m7 o.op=true->db P f S o.op=some (v,S,none)->JA P all ms n i o ⟨true,hp,f,S⟩ ⟨true,i::hp,(d,v)::f,S⟩
 | k {hp f S d cl g vs ws r}:eH all n [o]=true->o.op=.call cl->o.dst=some d->da all f o.guard=some true->kH (.call cl)=true->qO o.op=true->gr P f cl=some (g,vs)->PC P g ws (·=r)->bn S vs ws->Az r=true->
  JA P all ms n i o ⟨true,hp,f,S⟩ ⟨true,hp,(d,r)::f,S⟩
 | e {b hp f S v S'}:eH all n [o]=true->da all f o.guard=some true->qO o.op=true->kI o.op=true->hp.all (λj=>eh (ms.getD i 0) j)=true->db P f S o.op=some (v,S',none)->JA P all ms n i o ⟨b,hp,f,S⟩ ⟨false,hp,se f none o.dst v,S'⟩
inductive Tc (P:Program) (all:List Oper) (ms:List Nat) (n:Nat):List (Nat×Oper)->TS->TS->Prop
 | nil {x}:Tc P all ms n [] x x
 | cons {i o l x y z}:JA P all ms n i o x y->Tc P all ms n l y z->Tc P all ms n ((i,o)::l) x z
def SD(P:Program)(_:Option Nat)(all:List Oper)(ms:List Nat)(n:Nat)(b:Bool)(hp:List Nat)(l:List (Nat×Oper))(f:Fm)(S:List SO)(K:Fm->List SO->Prop):Prop:=∃z,K z.f z.S/\Tc P all ms n l ⟨b,hp,f,S⟩ z
section
variable {all:List Oper} {ms:List Nat} {n:Nat} {b:Bool} {hp:List Nat} {l:List (Nat×Oper)} {f:Fm} {S:List SO} {K:Fm->List SO->Prop} {i:Nat} {o:Oper} {d:Nat}
theorem SD.nil(h:K f S):SD P ro all ms n b hp [] f S K:=⟨_,h,.nil⟩
theorem SD.s(hst:eH all n [o]=true)(hdst:o.dst=some d)(hw:da all f o.guard=some false)(hwr:kI o.op=false):SD P ro all ms n b hp l ((d,.a kh)::f) S K->SD P ro all ms n b hp ((i,o)::l) f S K:=λ⟨z,k,t⟩=>⟨z,k,.cons (.s hst hdst hw hwr) t⟩
theorem IJ{α β γ:Type}(a:Option α)(g:α->Option β)(k:β->γ):(a.bind λx=>(g x).map k)=(a.bind g).map k:=by cases a<;>rfl
theorem Ol{S S2:List SO}{op:Op}{v:SV}(hr:m7 op=true)(hh:LL op=false)(h:db P f S op=some (v,S,none)):db P f S2 op=some (v,S2,none):=by
 have go:∀{α:Type} (q:Option α) (w:α->SV),q.map (λv=>(w v,S,(none:Option Nat)))=some (v,S,none)->q.map (λv=>(w v,S2,(none:Option Nat)))=some (v,S2,none):=by
  rintro _ (_ | q) w h
  ·cases h
  ·cases h;rfl
 cases op<;>first | (simp[m7] at hr;done) | (simp[LL] at hh;done) | (simp only[db,IJ] at h ⊢;exact go _ _ h) | skip
 case makeFunc g first _=>
  cases g<;>first | (simp[m7] at hr;done) | skip
  all_goals
   simp only[db] at h ⊢
   cases ha:ma f first.toList with
   | none=>rw[ha] at h;cases h
   | some a=>
    rw[ha] at h;simp only[bind_some] at h ⊢
    first
    | exact go _ _ h
    | cases hb:jL a with
     | none=>rw[hb] at h;cases h
     | some b=>
      rw[hb] at h;simp only[bind_some,IJ] at h ⊢;exact go _ _ h
 case extract x _=>
  simp only[db] at h ⊢
  cases hx:eY f x with
  | none=>rw[hx] at h;cases h
  | some w=>
   rw[hx] at h
   cases w<;>first | (cases h;done) | exact go _ _ h
theorem SD.r{v:SV}{S':List SO}{kill:Option Nat}(hst:eH all n [o]=true)(hdst:o.dst=some d)(hw:da all f o.guard=some true)(hrr:(m7 o.op&&(b||!LL o.op))=true)(hop:db P f S o.op=some (v,S',kill))
 (hk:SD P ro all ms n b (_root_.cond (LL o.op) (i::hp) hp) l ((d,v)::f) S K):SD P ro all ms n b hp ((i,o)::l) f S K:=by
 rw[and_eq_true] at hrr;obtain⟨h1,h2⟩:=hrr;obtain⟨rfl,rfl⟩:=E9 h1 hop;obtain⟨z,k,t⟩:=hk;cases hh:LL o.op
 ·rw[hh] at t;exact⟨z,k,.cons (.r hst hdst hw h1 λS2=>Ol h1 hh hop) t⟩
 ·rw[hh] at t h2
  obtain rfl:b=true:=by cases b<;>simp_all
  exact⟨z,k,.cons (.h hst hdst hw h1 hop) t⟩
theorem SD.ri{tt:TypeId}{x:Operand}{cs0:List SV}{v:SV}(hst:eH all n [o]=true)(hdst:o.dst=some d)(hw:da all f o.guard=some true)(hop:o.op=.load tt x)(hx:eY f x=some (.ip cs0))(hv:sL P tt cs0 0=some v):
 SD P ro all ms n b hp l ((d,v)::f) S K->SD P ro all ms n b hp ((i,o)::l) f S K:=λ⟨z,k,t⟩=>⟨z,k,.cons (.r hst hdst hw (by rw[hop];rfl) λS2=>by rw[hop,db,hx,bind_some,sw,hv];rfl) t⟩
theorem SD.k{cl:Call}{g:FuncId}{vs ws:List SV}{r:SV}(hst:eH all n [o]=true)(hop:o.op=.call cl)(hdst:o.dst=some d)(hw:da all f o.guard=some true)(hdy:kH (.call cl)=true)(he:qO (.call cl)=true)
 (hc:gr P f cl=some (g,vs)) (hq:PC P g ws (·=r)) (hwk:bn S vs ws) (hr:Az r=true):SD P ro all ms n true hp l ((d,r)::f) S K->SD P ro all ms n true hp ((i,o)::l) f S K:=λ⟨z,k,t⟩=>⟨z,k,.cons (.k hst hop hdst hw hdy (by rw[hop];exact he) hc hq hwk hr) t⟩
theorem SD.e{v:SV}{S':List SO}(hst:eH all n [o]=true)(hdst:o.dst=none)(hw:da all f o.guard=some true)(he:qO o.op=true)(hwr:kI o.op=true)(hms:hp.all (λj=>eh (ms.getD i 0) j)=true)(hop:db P f S o.op=some (v,S',none)):
 SD P ro all ms n false hp l f S' K->SD P ro all ms n b hp ((i,o)::l) f S K:=λ⟨z,k,t⟩=>⟨z,k,.cons (by have:=JA.e (b:=b) hst hw he hwr hms hop;rw[hdst] at this;exact this) t⟩
end
theorem SD.ed{all:List Oper}{ms:List Nat}{n:Nat}{b:Bool}{hp:List Nat}{l:List (Nat×Oper)}{f:Fm}{S:List SO}{K:Fm->List SO->Prop}{i:Nat}{o:Oper}{d:Nat}{v:SV}{S':List SO}(hst:eH all n [o]=true)(hdst:o.dst=some d)(hw:da all f o.guard=some true)(he:qO o.op=true)(hwr:kI o.op=true)(hms:hp.all (λj=>eh (ms.getD i 0) j)=true)(hop:db P f S o.op=some (v,S',none)):
 SD P ro all ms n false hp l ((d,v)::f) S' K->SD P ro all ms n b hp ((i,o)::l) f S K:=λ⟨z,k,t⟩=>⟨z,k,.cons (by have:=JA.e (b:=b) hst hw he hwr hms hop;rw[hdst] at this;exact this) t⟩
theorem Tc.get{all:List Oper}{ms:List Nat}{n:Nat}:∀{ol:List Oper} {i0:Nat} {x z:TS},Tc P all ms n (eO i0 ol) x z->∃X:Nat->TS,X i0=x/\X (i0+ol.length)=z/\∀(k:Nat) o,ol[k]?=some o->JA P all ms n (i0+k) o (X (i0+k)) (X (i0+k+1))
 | [],i0,x,z,h=>by
  rw[eO] at h;cases h;exact⟨λ_=>x,rfl,rfl,λk o h=>by simp at h⟩
 | o::ol,i0,x,z,h=>by
  rw[eO] at h
  cases h with | cons h t=>?_
  obtain⟨X,h1,h2,h3⟩:=Tc.get t;refine⟨λj=>if j=i0 then x else X j,if_pos rfl,?_,?_⟩
  ·show(if _ then _ else _)=z;rw[List.length_cons,if_neg (by omega),<-h2];congr 1;omega
  ·rintro(_ | k) o' ho
   ·cases ho;show JA P all ms n i0 o (if _ then _ else _) (if _ then _ else _);rw[Nat.add_zero,if_pos rfl,if_neg (by omega),h1];exact h
   ·have:=h3 k o' (by simpa using ho);show JA P all ms n (i0+(k+1)) o' (if _ then _ else _) (if _ then _ else _);rw[if_neg (by omega),if_neg (by omega),show i0+(k+1)=i0+1+k by omega];exact this
def EO(ol:List Oper)(i:Nat)(a:Oper)(mj:Nat)(b:Oper):Bool:=
 (match b.dst with | some d=>!(decide (a.dst=some d))&&!(na ol a).contains d | none=>true)&&(eh mj i||(match a.dst with | some d=>!(na ol b).contains d | none=>true)&&!(qO a.op&&qO b.op))
def EP(all:List Oper)(ms:List Nat):List (Nat×Oper)->Bool
 | []=>true
 | (i,a)::rest=>(match a.dst with | some d=>!(na all a).contains d | none=>true)&&(match a.guard with | some (j,_)=>Nat.blt j i | none=>true)&&rest.all (λq=>EO all i a (ms.getD q.1 0) q.2)&&EP all ms rest
theorem Mr{all:List Oper}{ms:List Nat}:∀{ol:List Oper} {i0 i:Nat} {o:Oper},EP all ms (eO i0 ol)=true->ol[i]?=some o->(∀d,o.dst=some d->d∉na all o)/\(∀j b,o.guard=some (j,b)->j<i0+i)/\∀(k:Nat) o',i<k->ol[k]?=some o'->EO all (i0+i) o (ms.getD (i0+k) 0) o'=true
 | [],_,_,_,_,h=>by simp at h
 | a::ol,i0,i,o,h,ho=>by
  rw[eO,EP,and_eq_true,and_eq_true,and_eq_true] at h;obtain⟨⟨⟨h1,h2⟩,h3⟩,h4⟩:=h
  cases i with
  | zero=>
   cases ho;refine⟨λd hd=>?_,λj b hg=>?_,λk o' hk hko=>?_⟩
   ·rw[hd] at h1;simpa using h1
   ·rw[hg] at h2;exact fQ h2
   ·obtain⟨k,rfl⟩:=Nat.exists_eq_succ_of_ne_zero (Nat.ne_of_gt hk);have:=List.all_eq_true.1 h3 (i0+1+k,o') (mem_iff_getElem?.2 ⟨k,by rw[sE,show ol[k]?=some o' by simpa using hko];rfl⟩);rw[show i0+(k+1)=i0+1+k by omega];exact this
  | succ i=>
   obtain⟨g1,g2,g3⟩:=Mr h4 (by simpa using ho);refine⟨g1,λj b hg=>by have:=g2 j b hg;omega,λk o' hk hko=>?_⟩;obtain⟨k,rfl⟩:=Nat.exists_eq_succ_of_ne_zero (show k≠0 by omega);have:=g3 k o' (by omega) (by simpa using hko);rw[show i0+(i+1)=i0+1+i by omega,show i0+(k+1)=i0+1+k by omega];exact this
theorem Ge{all:List Oper}{f1 f2:Fm}{o:Oper}(h:∀t∈na all o,aR f1 t=aR f2 t):da all f1 o.guard=da all f2 o.guard:=by
 unfold na at h;unfold da;split
 ·rfl
 ·rename_i j w hg;rw[hg] at h
  cases ho:all[j]? with
  | none=>rfl
  | some o'=>
   cases hd:o'.dst with
   | none=>simp[hd]
   | some d=>
    simp only[ho,hd,bind_some] at h ⊢;rw[h d (by simp)]
theorem Kt{all:List Oper}{f1 f2:Fm}{o:Oper}(h:∀t∈na all o,aR f1 t=aR f2 t):∀x∈o.op.operands.toList,eY f1 x=eY f2 x:=by
 intro x hx
 cases x with
 | tmp t=>simp only[eY];rw[h t (by unfold na;exact List.mem_append_left _ (xR (by simpa using hx)))]
 | _=>rfl
theorem DF{f1 f2:Fm}{c:Call}(h:∀x∈(Op.call c).operands.toList,eY f1 x=eY f2 x):gr P f1 c=gr P f2 c:=by
 obtain⟨callee,aS,ats⟩:=c
 cases callee with
 | builtin b=>rfl
 | value x=>
  rw[gr,gr];simp only;rw[h x (by simp[Op.operands,Call.operands]),gH (l:=aS.toList) λy hy=>h y (by simp only[Op.operands,Call.operands,Array.toList_append,List.mem_append];exact .inr hy)]
 | invoke x m=>
  rw[gr,gr];simp only;rw[h x (by simp[Op.operands,Call.operands]),gH (l:=aS.toList) λy hy=>h y (by simp only[Op.operands,Call.operands,Array.toList_append,List.mem_append];exact .inr hy)]
theorem Lq{cl:Call}(h:kH (.call cl)=true):kI (.call cl)=false:=by
 obtain⟨callee,aS,ats⟩:=cl
 cases callee<;>first | rfl | (simp[kH] at h;done)
theorem M5{b:Bool}(h:b=true->False):b=false:=by cases b<;>simp_all
theorem A8{op:Op}(h:m7 op=true):kI op=false:=by
 cases op<;>first | rfl | (simp[m7] at h;done) | skip
 rename_i c;obtain⟨callee,aS,ats⟩:=c
 cases callee with
 | builtin b=>cases b<;>first | rfl | (simp[m7] at h;done)
 | _=>rfl
theorem JA.out{all:List Oper}{ms:List Nat}{n i:Nat}{o:Oper}{x y:TS}(h:JA P all ms n i o x y):eH all n [o]=true/\(∀t,o.dst≠some t->aR y.f t=aR x.f t)/\(kI o.op=false->y.S=x.S)/\(y.b=true->x.b=true/\kI o.op=false)/\(∀j∈x.hp,j∈y.hp)/\(kI o.op=true->x.hp.all (λj=>eh (ms.getD i 0) j)=true/\qO o.op=true):=by
 have put:∀{f:Fm} {d:Nat} {v:SV},o.dst=some d->∀t,o.dst≠some t->aR ((d,v)::f) t=aR f t:=λ{f d v} hd t ht=>by
  show(if d=t then v else aR f t)=_;rw[if_neg λe=>ht (by rw[hd,e])]
 have no:kI o.op=false->kI o.op=true->x.hp.all (λj=>eh (ms.getD i 0) j)=true/\qO o.op=true:=λh h2=>by rw[h] at h2;cases h2
 cases h with
 | s h1 h2 h3 h4=>exact⟨h1,put h2,λ_=>rfl,λh=>⟨h,h4⟩,λ_ h=>h,no h4⟩
 | r h1 h2 h3 h4=>exact⟨h1,put h2,λ_=>rfl,λh=>⟨h,A8 h4⟩,λ_ h=>h,no (A8 h4)⟩
 | h h1 h2 h3 h4=>exact⟨h1,put h2,λ_=>rfl,λh=>⟨h,A8 h4⟩,λ_ h=>List.mem_cons_of_mem _ h,no (A8 h4)⟩
 | k h1 h0 h2 h3 h4=>
  have hk:kI o.op=false:=by rw[h0];exact Lq h4
  exact⟨h1,put h2,λ_=>rfl,λh=>⟨h,hk⟩,λ_ h=>h,no hk⟩
 | e h1 h3 h4 h5 h6=>
  refine⟨h1,λt ht=>?_,λh=>(by rw[h] at h5;cases h5),λh=>(by cases h),λ_ h=>h,λ_=>⟨h6,h4⟩⟩
  cases hd:o.dst with
  | none=>rfl
  | some d=>exact put hd t ht
theorem ai.Lp{id:Nat}{ops:Array Oper}{st:en}{Q:Ex->en->Prop}{ol:List Oper}{ms:List Nat}(hol:ops.toList=ol)(hms:pG ol []=ms)(hok:((lL 0 ol&&P.follows .mixedOrders)&&EP ol ms (eO 0 ol))=true)
 (h:SD P ro ol ms st.n true [] (eO 0 ol) st.f st.S λf' S'=>Q .normal ⟨f',st.n,S',st.ds⟩):ai P ro (.region id ops true) st Q:=by
 obtain⟨f,n,S,ds⟩:=st;rw[and_eq_true] at hok;obtain⟨hbk,hpr⟩:=hok;have hback:=hbk;rw[and_eq_true] at hback;obtain⟨z,hz,ht⟩:=h;obtain⟨X,hX0,hXN,hX⟩:=ht.get;simp only[zero_add] at hXN hX;have hP:=λ{i:Nat} {o:Oper} (ho:ol[i]?=some o)=>Mr hpr ho;simp only[zero_add] at hP
 have hF:∀(k m t:Nat),k<=m->m<=ol.length->(∀j o,k<=j->j<m->ol[j]?=some o->o.dst≠some t)->aR (X m).f t=aR (X k).f t:=by
  intro k m t hkm
  induction hkm with
  | refl=>exact λ_ _=>rfl
  | step hkm ih=>
   rename_i m;intro hm hno;have hoj:ol[m]?=some (ol[m]'hm):=getElem?_eq_getElem hm;rw[(hX m _ hoj).out.2.1 t (hno m _ hkm (Nat.lt_succ_self _) hoj)];exact ih (le_of_lt hm) λj o h1 h2=>hno j o h1 (by omega)
 have hS:∀(k m:Nat),k<=m->m<=ol.length->(∀j o,k<=j->j<m->ol[j]?=some o->kI o.op=false)->(X m).S=(X k).S:=by
  intro k m hkm
  induction hkm with
  | refl=>exact λ_ _=>rfl
  | step hkm ih=>
   rename_i m;intro hm hno;have hoj:ol[m]?=some (ol[m]'hm):=getElem?_eq_getElem hm;rw[(hX m _ hoj).out.2.2.1 (hno m _ hkm (Nat.lt_succ_self _) hoj)];exact ih (le_of_lt hm) λj o h1 h2=>hno j o h1 (by omega)
 have hB:∀(m:Nat),m<=ol.length->(X m).b=true->∀j o,j<m->ol[j]?=some o->kI o.op=false:=by
  intro m
  induction m with
  | zero=>exact λ_ _ j o h=>absurd h (Nat.not_lt_zero _)
  | succ m ih=>
   intro hm hb j o hj ho;obtain⟨h1,h2⟩:=(hX m _ (getElem?_eq_getElem hm)).out.2.2.2.1 hb;by_cases e:j=m
   ·subst e;rw[getElem?_eq_getElem hm] at ho;cases ho;exact h2
   ·exact ih (le_of_lt hm) h1 j o (by omega) ho
 have hH:∀(k m j:Nat),k<=m->m<=ol.length->j∈(X k).hp->j∈(X m).hp:=by
  intro k m j hkm
  induction hkm with
  | refl=>exact λ_ h=>h
  | step hkm ih=>
   intro hm hj;exact(hX _ _ (getElem?_eq_getElem hm)).out.2.2.2.2.1 j (ih (le_of_lt hm) hj)
 have hu:∀{j k:Nat} {a b:Oper} {t:Nat},ol[j]?=some a->ol[k]?=some b->a.dst=some t->b.dst=some t->j=k:=by
  have one:∀{j k:Nat} {a b:Oper} {t:Nat},ol[j]?=some a->ol[k]?=some b->a.dst=some t->b.dst=some t->¬j<k:=by
   intro j k a b t hj hk ha hb hlt;have:=(hP hj).2.2 k b hlt hk;unfold EO at this;rw[hb] at this;simp[ha] at this
  intro j k a b t hj hk ha hb;exact Nat.le_antisymm (Nat.le_of_not_lt (one hk hj hb ha)) (Nat.le_of_not_lt (one hj hk ha hb))
 have hin:∀{L:Nat->Prop} {k:Nat} {o:Oper} {t:Nat},ol[k]?=some o->o.dst=some t->aR (kF L f z.f 0 ol) t=vo L k (aR z.f t):=by
  intro L k o t hk ht;rw[nY (λj o' hj hd=>hu hj hk hd ht) hk ht,zero_add]
 have hgd:∀(i:Nat) (o:Oper),ol[i]?=some o->∀(j:Nat) (b:Bool),o.guard=some (j,b)->j<i:=λi o ho=>(hP ho).2.1;refine ai.post (ai.any hol hbk (.inr hgd) (λL x=>x.n=n/\jh ol L/\∃m,m<=ol.length/\(∀j o,ol[j]?=some o->kI o.op=true->(L j↔j<m))/\Fg x ⟨kF L f z.f 0 ol,n,(X m).S,ds⟩) ?_ (λL x h=>h.1) ?_ ?_)
 ·refine⟨rfl,λ_ _ _ h=>h.elim,0,zero_le _,λj o _ _=>⟨λh=>h.elim,λh=>absurd h (Nat.not_lt_zero _)⟩,?_⟩;rw[hX0];refine Fg.tmps λt=>?_;by_cases hno:∀o∈ol,o.dst≠some t
  ·exact .inl (gu hno)
  ·simp only[ne_eq,Classical.not_forall,Decidable.not_not] at hno;obtain⟨o,ho,hd⟩:=hno;obtain⟨k,hk⟩:=mem_iff_getElem?.1 ho;right;rw[hin hk hd];exact iU λh=>h
 ·rintro L x i o ⟨hxn,hc,m,hml,hm,hx⟩ hr;have ho:=hr.ik;have hil:=bl ho;obtain⟨p1,p2,p3⟩:=hP ho
  have hc2:jh ol (λj=>L j\/j=i):=by
   intro j o' ho' hj e he hd
   rcases hj with hj | rfl
   ·exact .inl (hc j o' ho' hj e he hd)
   ·rw[ho'] at ho;cases ho;exact .inl (hr.dep e he hd)
  have hA:∀k,eh (ms.getD i 0) k=true->L k:=λk hk=>LZ hback.1 hc i o ho hr.dep (by rw[hms];exact hk);have hA2:∀j o' k,ol[j]?=some o'->L j->eh (ms.getD j 0) k=true->L k:=λj o' k hj hl hk=>LZ hback.1 hc j o' hj (hc j o' hj hl) (by rw[hms];exact hk)
  have hlook:∀t∈na ol o,aR (kF L f z.f 0 ol) t=aR (X i).f t:=by
   intro t hlt;by_cases hno:∀o∈ol,o.dst≠some t
   ·rw[gu hno,hF 0 i t (zero_le _) (le_of_lt hil) λj o' _ _ hj=>hno o' (List.mem_of_getElem? hj),hX0]
   ·simp only[ne_eq,Classical.not_forall,Decidable.not_not] at hno;obtain⟨o',ho',hd⟩:=hno;obtain⟨j,hj⟩:=mem_iff_getElem?.1 ho'
    rcases Nat.lt_trichotomy j i with hji | rfl | hji
    ·have h1:=(hP hj).2.2 i o hji ho;unfold EO at h1;rw[hd,and_eq_true] at h1
     have hbit:eh (ms.getD i 0) j=true:=by
      have h2:=h1.2;rw[Bool.or_eq_true] at h2
      rcases h2 with h2 | h2
      ·exact h2
      ·simp[hlt] at h2
     rw[hin hj hd,cT (hA j hbit),<-hXN]
     exact hF i ol.length t (le_of_lt hil) (le_refl _) λk b hik _ hk e=>by have:=hu hj hk hd e;omega
    ·rw[hj] at ho;cases ho;exact absurd hlt (p1 t hd)
    ·have h1:=p3 j o' hji hj;unfold EO at h1;rw[hd] at h1;simp[hlt] at h1
  have hwant:=Ge hlook;have hops:=Kt hlook
  have htake:∀g:Option (Nat×Bool),o.guard=g->da (ol.take (i+1)) (kF L f z.f 0 ol) g=da ol (X i).f g:=by
   intro g hg;rw[<-hg,<-hwant,hg]
   cases g with
   | none=>rfl
   | some q=>obtain⟨j,w⟩:=q;simp only[da];rw[List.getElem?_take,if_pos (by have:=p2 j w hg;omega)]
  have hst:eH (ol.take (i+1)) n [o]=true:=by
   have:=(hX i o ho).out.1;unfold eH at this ⊢;simp only[List.all_cons,List.all_nil,Bool.and_true] at this ⊢
   cases hg:o.guard with
   | none=>rw[hg] at this;exact this
   | some q=>obtain⟨j,w⟩:=q;rw[hg] at this;simp only at this ⊢;rw[List.getElem?_take,if_pos (by have:=p2 j w hg;omega)];exact this
  have hSS:(∀j o',ol[j]?=some o'->kI o'.op=true->(L j↔j<i))->(X m).S=(X i).S:=by
   intro hh
   rcases Nat.le_total i m with him | him
   ·exact hS i m him hml λj o' h1 h2 hj=>M5 λe=>by have a:=hh j o' hj e;have b:=hm j o' hj e;have:=a.1 (b.2 h2);omega
   ·exact(hS m i him (le_of_lt hil) λj o' h1 h2 hj=>M5 λe=>by have a:=hh j o' hj e;have b:=hm j o' hj e;have:=b.1 (a.2 h2);omega).symm
  have hlate:(X i).b=true->(∀j o',i<j->ol[j]?=some o'->kI o'.op=true->eh (ms.getD j 0) i=true)->(X m).S=(X i).S:=by
   intro hb hh;refine hSS λj o' hj hd=>⟨λhl=>?_,λhlt=>absurd hd (by rw[hB i (le_of_lt hil) hb j o' hlt hj];simp)⟩
   rcases Nat.lt_trichotomy j i with h1 | rfl | h1
   ·exact h1
   ·exact absurd hl hr.new
   ·exact absurd (hA2 j o' i hj hl (hh j o' h1 hj hd)) hr.new
  refine aM.fg hx ?_
  have layF:∀{v:SV},(∀d,o.dst=some d->aR (X (i+1)).f d=v)->∀t,aR (kF (λj=>L j\/j=i) f z.f 0 ol) t=aR (se (kF L f z.f 0 ol) none o.dst v) t:=by
   intro v hv t
   have hr:aR (se (kF L f z.f 0 ol) none o.dst v) t=if o.dst=some t then v else aR (kF L f z.f 0 ol) t:=by
    cases o.dst with
    | none=>rw[if_neg nofun];rfl
    | some d=>
     show(if d=t then v else _)=_;simp only[Option.some.injEq,ia]
   rw[hr];by_cases hno:∀o∈ol,o.dst≠some t
   ·rw[gu hno,if_neg (hno o (List.mem_of_getElem? ho)),gu hno]
   ·simp only[ne_eq,Classical.not_forall,Decidable.not_not] at hno;obtain⟨o',ho',hd'⟩:=hno;obtain⟨k,hk⟩:=mem_iff_getElem?.1 ho';rw[hin hk hd',hin hk hd'];by_cases hki:k=i
    ·subst hki;rw[ho] at hk;cases hk;rw[if_pos hd',cT (.inr rfl),<-hv t hd',<-hXN]
     exact hF (k+1) ol.length _ hil (le_refl _) λj b h1 _ hj e=>by have:=hu hj ho e hd';omega
    ·rw[if_neg λe=>hki (hu hk ho hd' e)];by_cases hlk:L k
     ·rw[cT hlk,cT (.inl hlk)]
     ·rw[iU hlk,iU λh=>h.elim hlk hki]
  have lay:∀{d:Nat} {v:SV},o.dst=some d->kI o.op=false->aR (X (i+1)).f d=v->(λx=>(λx=>x.n=n/\jh ol (λj=>L j\/j=i)/\∃m,m<=ol.length/\(∀j o,ol[j]?=some o->kI o.op=true->((L j\/j=i)↔j<m))/\Fg x ⟨kF (λj=>L j\/j=i) f z.f 0 ol,n,(X m).S,ds⟩) x) ⟨(d,v)::kF L f z.f 0 ol,n,(X m).S,ds⟩:=by
   intro d v hd hwr hv;refine⟨rfl,hc2,m,hml,λj o' hj hdj=>⟨λh=>?_,λh=>.inl ((hm j o' hj hdj).2 h)⟩,Fg.tmps λt=>.inl ?_⟩
   ·rcases h with h | rfl
    ·exact(hm j o' hj hdj).1 h
    ·rw[ho] at hj;cases hj;rw[hwr] at hdj;cases hdj
   ·rw[layF (v:=v) (λd' e=>by rw[hd] at e;cases e;exact hv) t,hd];rfl
  have hstp:=hX i o ho;have top:∀{d:Nat} {v:SV} {f:Fm},aR ((d,v)::f) d=v:=λ{d v f}=>if_pos rfl;have hXi:∃x,X i=x:=⟨_,rfl⟩;have hXj:∃x,X (i+1)=x:=⟨_,rfl⟩;obtain⟨xi,hxi⟩:=hXi;obtain⟨xj,hxj⟩:=hXj;rw[hxi,hxj] at hstp
  cases hstp with
  | s _ hd hw hwr=>
   refine aM.run (l':=[]) hst ?_ (.nil (lay (v:=.a kh) hd hwr (by rw[hxj];exact top)));rw[kP,htake _ rfl,hxi,hw];simp only[hd,kP]
  | r _ hd hw hrd hop=>
   rename_i v _;refine aM.run (l':=[]) hst ?_ (.nil (lay (v:=v) hd (A8 hrd) (by rw[hxj];exact top)));rw[kP,htake _ rfl,hxi,hw,qv (by rw[hrd];rfl) hops,hxi,hop];simp only[hd,se,ia,kP]
  | h _ hd hw hrd hop=>
   rename_i v _
   have e:=hlate (by rw[hxi]) λj o' hij hj hdj=>by
    have h1:=(hX j o' hj).out.2.2.2.2.2 hdj;exact List.all_eq_true.1 h1.1 i (hH (i+1) j i hij (le_of_lt (bl hj)) (by rw[hxj];exact List.mem_cons_self))
   rw[hxi] at e;refine aM.run (l':=[]) hst ?_ (.nil (lay (v:=v) hd (A8 hrd) (by rw[hxj];exact top)));rw[kP,htake _ rfl,hxi,hw,qv (by rw[hrd];rfl) hops,hxi,e,hop];simp only[hd,se,ia,kP]
  | k _ hop hd hw hdy he hcs hq hwk hfl=>
   have hkw:kI o.op=false:=by rw[hop];exact Lq hdy
   have e:=hlate (by rw[hxi]) λj o' hij hj hdj=>by
    have h1:=p3 j o' hij hj;unfold EO at h1;rw[and_eq_true] at h1;have h2:=h1.2;rw[he,((hX j o' hj).out.2.2.2.2.2 hdj).2] at h2;simpa using h2
   rw[hxi] at e;refine aM.k hst hop hd (by rw[htake _ rfl,hxi];exact hw) hdy (by rw[DF (by rw[<-hop];exact hops),hxi];exact hcs) hq (by rw[e];exact hwk) (.inl hfl) (.nil (lay hd hkw (by rw[hxj];exact top)))
  | e _ hw he hwr _ hop=>
   have hb:∀j o',ol[j]?=some o'->kI o'.op=true->(L j↔j<i):=by
    intro j o' hj hdj;have heff:=((hX j o' hj).out.2.2.2.2.2 hdj).2
    rcases Nat.lt_trichotomy j i with h1 | rfl | h1
    ·refine⟨λ_=>h1,λ_=>hA j ?_⟩;have h2:=(hP hj).2.2 i o h1 ho;unfold EO at h2;rw[and_eq_true] at h2;have h2:=h2.2;rw[he,heff] at h2;simpa using h2
    ·exact⟨λh=>absurd h hr.new,λh=>absurd h (Nat.lt_irrefl _)⟩
    ·refine⟨λhl=>?_,λh=>absurd h (by omega)⟩;have h2:=p3 j o' h1 hj;unfold EO at h2;rw[and_eq_true] at h2;have h2:=h2.2;rw[he,heff] at h2;exact absurd (hA2 j o' i hj hl (by simpa using h2)) hr.new
   have e:=hSS hb;rw[hxi] at e;rename_i v S' _ _;refine aM.run (l':=[]) (f':=se (kF L f z.f 0 ol) none o.dst v) (S':=(X (i+1)).S) hst ?_ (.nil ⟨rfl,hc2,i+1,hil,λj o' hj hdj=>?_,Fg.tmps λt=>.inl (layF (λd e=>?_) t)⟩)
   ·rw[kP,htake _ rfl,hxi,hw,qv (by rw[hwr,Bool.or_true]) hops,hxi,e,hop,hxj];simp only[kP]
   ·refine⟨λh=>?_,λh=>?_⟩
    ·rcases h with h | rfl
     ·have:=(hb j o' hj hdj).1 h;omega
     ·omega
    ·by_cases e:j=i
     ·exact .inr e
     ·exact .inl ((hb j o' hj hdj).2 (by omega))
   ·rw[hxj,e];exact top
 ·rintro L x ⟨hxn,hc,m,hml,hm,hx⟩ hall
  have hSe:(X m).S=z.S:=by
   rw[<-hXN];exact(hS m ol.length hml (le_refl _) λj o h1 h2 hj=>M5 λe=>by have:=(hm j o hj e).1 (hall j h2);omega).symm
  rw[hSe] at hx;refine⟨⟨z.f,n,z.S,ds⟩,hx.trans (Fg.tmps λt=>.inl ?_),hz⟩;by_cases hno:∀o∈ol,o.dst≠some t
  ·rw[gu hno,<-hXN,hF 0 ol.length t (zero_le _) (le_refl _) λj o' _ _ hj=>hno o' (List.mem_of_getElem? hj),hX0]
  ·simp only[ne_eq,Classical.not_forall,Decidable.not_not] at hno;obtain⟨o',ho',hd'⟩:=hno;obtain⟨k,hk⟩:=mem_iff_getElem?.1 ho';rw[hin hk hd',cT (hall k (bl hk))]
end
end
end Go.Ev
namespace Go.Proofs
open Go.Ev
set_option maxRecDepth 100000
theorem dP:rK Tryz.prog:=NZ (by kernel_rfl)
set_option maxHeartbeats 4000000 in
theorem F9:yW Tryz.prog 105 .clone:=yW.clone λt r es ck w h=>by
 rw[run_callFunc_extern Tryz.func105 (by kernel_rfl) (by kernel_rfl) (by kernel_rfl) (e:=Extern.MapsClone.clone) (by kernel_rfl)]
 have e:∃s:String,Extern.MapsClone.clone #[.iface t (.map (some r))]=(getObj r>>=λo=>match o with
  | .map entries clock=>(newObj (.map entries clock)>>=λn=>pure (.iface t (.map (some n))))
  | _=>stuck s):=⟨_,rfl⟩
 obtain⟨s,e⟩:=e;rw[e];simp[MapKept.run_getObj_map h,Result.andThen,go_sem]
set_option maxHeartbeats 4000000 in
theorem Ga:yW Tryz.prog 199 .indexByte:=yW.indexByte λx c w=>by
 rw[run_callFunc_extern Tryz.func199 (by kernel_rfl) (by kernel_rfl) (by kernel_rfl) (e:=Extern.BytealgIndexByte.indexByte) (by kernel_rfl),Lib.run_indexByteString];rfl
end Go.Proofs
