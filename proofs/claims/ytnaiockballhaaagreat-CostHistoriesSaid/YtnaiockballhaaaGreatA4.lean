/- A part of the texts of this claim: every theorem says what it proves, with its conditions. -/
import Derived.Test.YtnaiockballhaaaGreatA3
set_option linter.unusedSimpArgs false
set_option linter.unusedVariables false
set_option linter.unusedSectionVars false
open Option (bind_some map_some)
open Bool (and_eq_true)
open Array (range)
open Nat (add_assoc le_refl)
open List (mapM_cons)
namespace Go.Ev
theorem Lk{P:Program}{σ:Sg}{w:World}{op:BinOp}{a b:Int}{r:AV}(h:BN op a b=some r):∃v,(Op.intCmp op a b).run P w=.ok v w/\V σ r v:=by
 unfold BN at h;split at h
 all_goals first
  | (simp only[Option.some.injEq] at h;subst h;refine⟨_,rfl,?_⟩)
  | (simp at h;done)
 ·rw[rW];exact .bool _
 ·rw[rW];exact .bool _
 ·rw[gP]
  have e:(!decide (b<=a))=decide (a<b):=by by_cases h:b<=a<;>simp[h]<;>omega
  rw[e];exact .bool _
 ·rw[gP];exact .bool _
 ·rw[gP]
  have e:(!decide (a<=b))=decide (a>b):=by by_cases h:a<=b<;>simp[h]<;>omega
  rw[e];exact .bool _
 ·rw[gP];exact .bool _
theorem II{b:Int}(h:LM b=false):b≠0:=by
 intro e;subst e;simp[LM] at h
theorem Lt{P:Program}(d:Nat)(t:TypeId)(y:AV):kR P d t .any y=none:=by
 cases d with
 | zero=>rfl
 | succ d=>unfold kR;split<;>simp_all
theorem Lu{P:Program}(d:Nat)(t:TypeId)(x:AV):kR P d t x .any=none:=by
 cases d with
 | zero=>rfl
 | succ d=>unfold kR;split<;>simp_all
theorem wN{P:Program}{op:BinOp}{t:TypeId}{x y r:AV}(h:cM P op t x y=some r):x≠.any/\y≠.any:=by
 constructor
 ·rintro rfl;unfold cM at h;split at h
  case h_1=>simp_all
  case h_2=>simp_all
  case h_3=>simp_all
  case h_4=>split at h<;>simp[Lt] at h<;>(cases hg:P.eqGuardType P.depth t<;>simp[hg] at h)
 ·rintro rfl;unfold cM at h;split at h
  case h_1=>simp_all
  case h_2=>simp_all
  case h_3=>simp_all
  case h_4=>split at h<;>simp[Lu] at h<;>(cases hg:P.eqGuardType P.depth t<;>simp[hg] at h)
theorem Lc{P:Program}{σ:Sg}{w:World}{op:BinOp}{t:TypeId}{x y:AV}{v u:Value}{r:AV}(h:cM P op t x y=some r)(hv:V σ x v)(hu:V σ y u):
 ∃z,(binOp op t v u).run P w=.ok z w/\V σ r z:=by
 have hany:=wN h;unfold cM at h;split at h
 case h_1 k a k' b=>
  cases hv;cases hu;split at h
  case h_1=>
   obtain⟨h0,h⟩:=aK h;simp only[and_eq_true,gP,decide_eq_true_eq] at h0;simp only[Option.some.injEq] at h;subst h;refine⟨_,by simp only[binOp,Op.shift];rw[if_neg (by omega)];rfl,?_⟩;rw[gL];simp only[Int.natCast_pow];exact .int _ _
  case h_2=>
   obtain⟨h0,h⟩:=aK h;simp only[and_eq_true,gP,decide_eq_true_eq] at h0;simp only[Option.some.injEq] at h;subst h;refine⟨_,by simp only[binOp,Op.shift];rw[if_neg (by omega)];rfl,?_⟩;simp only[Int.natCast_pow];exact .int _ _
  case h_3 hn1 hn2=>
   obtain⟨hk,h2⟩:=aK h;clear h;have:=(wj _ _).1 hk;subst this;have h:=h2;clear h2;split at h
   ·simp only[Option.some.injEq] at h;subst h;exact⟨.int k (k.wrap (a+b)),by simp[binOp,Op.intArith],by rw[gL];exact .int _ _⟩
   ·simp only[Option.some.injEq] at h;subst h;exact⟨.int k (k.wrap (a-b)),by simp[binOp,Op.intArith],by rw[gL];exact .int _ _⟩
   ·simp only[Option.some.injEq] at h;subst h;exact⟨.int k (k.wrap (a*b)),by simp[binOp,Op.intArith],by rw[gL];exact .int _ _⟩
   ·cases hz:LM b
    ·rw[hz,ao] at h;have:=II hz;simp only[Option.some.injEq] at h;subst h;exact⟨.int k (k.wrap (a.tdiv b)),by simp[binOp,Op.intDiv,this],by rw[gL];exact .int _ _⟩
    ·simp[hz] at h
   ·cases hz:LM b
    ·rw[hz,ao] at h;have:=II hz;simp only[Option.some.injEq] at h;subst h;exact⟨.int k (a.tmod b),by simp[binOp,Op.intDiv,this],.int _ _⟩
    ·simp[hz] at h
   ·simp at h
   ·simp at h
   ·simp at h
   ·simp at h
   ·obtain⟨z,hz,hV⟩:=Lk (P:=P) (σ:=σ) (w:=w) h;refine⟨z,?_,hV⟩;cases op<;>simp_all [binOp]
 case h_2 a b=>
  cases hv with
  | str h1=>cases hu with
   | str h2=>
    rename_i s1 s2;have e1:=qe h1 h2
    have e2:gk a b=Op.bytesLess s1.toList s2.toList:=by rw[<-h1,<-h2,ByteArray.toList_eq,ByteArray.toList_eq];exact qm _ _
    split at h
    ·obtain⟨h0,h9⟩:=aK h;have h0:=iO h0;simp only[Option.some.injEq] at h9;subst h9;refine⟨_,by simp only[binOp,Op.stringOp];rw[if_neg];rfl;rw[tc h1,tc h2];simp[IntKind.max,IntKind.signed,IntKind.bits];omega,?_⟩;refine .str ?_;rw[<-h1,<-h2];simp[ByteArray.data_append]
    all_goals first
     | (simp only[Option.some.injEq] at h;subst h;refine⟨_,rfl,?_⟩;simp only[e1,e2];exact .bool _)
     | simp at h
 case h_3=>simp at h
 case h_4=>
  have hne:(∀k a k' b,¬(v=.int k a/\u=.int k' b))/\(∀a b,¬(v=.string a/\u=.string b)):=by
   refine⟨?_,?_⟩
   ·rintro k a k' b ⟨rfl,rfl⟩
    cases hv with
    | any _=>exact hany.1 rfl
    | int=>cases hu with
     | any _=>exact hany.2 rfl
     | int=>
      simp_all
      rename_i hx;exact hx _ _ _ _ rfl rfl rfl rfl
   ·rintro a b ⟨rfl,rfl⟩
    cases hv with
    | any _=>exact hany.1 rfl
    | str=>cases hu with
     | any _=>exact hany.2 rfl
     | str=>simp_all
  have heq:∀b,kR P 8 t x y=some b->(Op.equal t v u).run P w=.ok b w:=λb hb=>IA 9992 8 t x y v u b hb hv hu;split at h
  ·cases hg:P.eqGuardType P.depth t
   ·rw[hg,ao] at h
    cases he:kR P 8 t x y with
    | none=>simp[he] at h
    | some b=>
     simp only[he,map_some,Option.some.injEq] at h;subst h;refine⟨.bool b,?_,.bool _⟩;have:=heq b he;simp only[kR] at he
     split at he<;>cases hv<;>cases hu<;>first
      | (simp only[binOp,Sem.run_bind,this,Result.andThen_ok,Sem.run_pure];done)
      | (exact absurd ⟨rfl,rfl⟩ (hne.1 _ _ _ _))
      | (exact absurd ⟨rfl,rfl⟩ (hne.2 _ _))
      | (simp at he;done)
   ·simp[hg] at h
  ·cases hg:P.eqGuardType P.depth t
   ·rw[hg,ao] at h
    cases he:kR P 8 t x y with
    | none=>simp[he] at h
    | some b=>
     simp only[he,map_some,Option.some.injEq] at h;subst h;refine⟨.bool (!b),?_,.bool _⟩;have:=heq b he;simp only[kR] at he
     split at he<;>cases hv<;>cases hu<;>first
      | (simp only[binOp,Sem.run_bind,this,Result.andThen_ok,Sem.run_pure];done)
      | (exact absurd ⟨rfl,rfl⟩ (hne.1 _ _ _ _))
      | (exact absurd ⟨rfl,rfl⟩ (hne.2 _ _))
      | (simp at he;done)
   ·simp[hg] at h
  ·simp at h
theorem DU{P:Program}{σ:Sg}{w:World}{op:BinOp}{t:TypeId}{X Y:Operand}{x y:AV}{v u:Value}{r:AV}(h:cM P op t x y=some r)(hv:V σ x v)(hu:V σ y u):
 (eqGuard op t X Y v u).run P w=.ok () w:=by
 by_cases hop:op=.eql\/op=.neq
 ·have hx:v≠.nilIface:=by
   intro e;subst e
   cases hv with
   | any _=>exact(wN h).1 rfl
   | vM=>unfold cM at h;split at h<;>simp_all
  have hg:∀a b,v=.agg a->u=.agg b->P.eqGuardType P.depth t=false:=by
   intro a b e1 e2;subst e1;subst e2;have hany:=wN h
   cases hv with
   | any hh=>exact absurd rfl (hh a)
   | agg=>
    cases hu with
    | any hh=>exact absurd rfl (hh b)
    | agg=>
     cases hg:P.eqGuardType P.depth t
     ·rfl
     ·unfold cM at h
      rcases hop with rfl | rfl<;>simp[hg] at h
  unfold eqGuard
  rcases hop with rfl | rfl<;>simp only[Bool.not_true,Bool.false_eq_true,if_false]
  all_goals
   cases v<;>first
    | exact absurd rfl hx
    | (cases u<;>first
     | rfl
     | (simp[hg _ _ rfl rfl];done)
     | (simp;done))
 ·cases op<;>first
   | exact absurd (.inl rfl) hop
   | exact absurd (.inr rfl) hop
   | rfl
theorem Oy{P:Program}{σ:Sg}{w:World}{op:UnOp}{x:AV}{v:Value}{r:AV}(h:PE op x=some r)(hv:V σ x v):∃z,(Op.unary op v).run P w=.ok z w/\V σ r z:=by
 unfold PE at h;split at h
 ·cases hv;simp only[Option.some.injEq] at h;subst h;exact⟨_,rfl,by rw[gL];exact .int _ _⟩
 ·cases hv;simp only[Option.some.injEq] at h;subst h;exact⟨_,rfl,.bool _⟩
 ·simp at h
theorem JM{P:Program}{σ:Sg}{w:World}{s d:TypeId}{x:AV}{v:Value}{r:AV}(h:lO P s d x=some r)(hv:V σ x v):∃z,(convert s d v).run P w=.ok z w/\V σ r z:=by
 unfold lO at h;split at h
 ·rename_i h1 h2;cases hv;simp only[Option.some.injEq] at h;subst h;rename_i k _ n;exact⟨.int k (k.wrap n),by simp[convert,aN h1,aN h2,Conv.intToInt],by rw[gL];exact .int _ _⟩
 ·rename_i h1 h2;simp only[Option.some.injEq] at h;subst h
  cases hv with
  | str hs=>exact⟨_,by simp[convert,aN h1,aN h2],.str hs⟩
 ·simp at h
theorem AF(off:Nat):∀(l:List Value) (k:Nat) (cells:Array Value),off+k+l.length<=cells.size->
 ((l.zipIdx k).foldl (λcs (p:Value×Nat)=>cs.setIfInBounds (off+p.2) p.1) cells).toList=cells.toList.take (off+k)++(l++cells.toList.drop (off+k+l.length))
 | [],k,cells,_=>by simp
 | v::l,k,cells,h=>by
  simp only[List.length_cons] at h;rw[List.zipIdx_cons,List.foldl_cons,AF off l (k+1) _ (by simp;omega)];apply List.ext_getElem?;intro j
  have hlen:(cells.setIfInBounds (off+k) v).toList.length=cells.size:=by simp
  rw[show off+(k+1)=(off+k)+1 by omega];have a1:=kX (cells.setIfInBounds (off+k) v).toList l (off+k+1) (by rw[hlen];omega) j;rw[a1];have a2:=kX cells.toList (v::l) (off+k) (by simp;omega) j;rw[a2];simp only[List.length_cons,Array.toList_setIfInBounds];by_cases h1:j=off+k
  ·subst h1;rw[if_neg (by omega),if_pos (by omega),List.getElem?_set_self (by simp;omega)];simp
  ·rw[List.getElem?_set_ne (by omega)];by_cases h2:off+k+1<=j/\j<off+k+1+l.length
   ·rw[if_pos h2,if_pos (by omega),show j-(off+k)=(j-(off+k+1))+1 by omega,List.getElem?_cons_succ]
   ·rw[if_neg h2,if_neg (by omega)]
def PL(σ:Sg)(ps:List (Nat×AV))(qs:List (Nat×Value)):Prop:=ps.length=qs.length/\∀(i:Nat) (a:Nat×AV) (v:Nat×Value),ps[i]?=some a->qs[i]?=some v->a.1=v.1/\V σ a.2 v.2
theorem r8{σ:Sg}{place:Nat->Option (Nat×Nat)}:∀(parts:List (Nat×AV)) (parts':List (Nat×Value)) (cells:List AV) (cells':Array Value) (r:List AV),
 jK place cells parts=some r->PL σ parts parts'->VL σ cells cells'.toList->
 ∃r':Array Value,Instr.fill place cells' parts'=some r'/\VL σ r r'.toList
 | [],parts',cells,cells',r,h,hp,hc=>by
  cases parts' with
  | nil=>simp[jK] at h;subst h;exact⟨cells',rfl,hc⟩
  | cons x y=>have:=hp.1;simp at this
 | (i,a)::parts,parts',cells,cells',r,h,hp,hc=>by
  cases parts' with
  | nil=>have:=hp.1;simp at this
  | cons x parts'=>
   obtain⟨i',v⟩:=x;have h0:=hp.2 0 (i,a) (i',v) (by simp) (by simp);simp only at h0;obtain⟨rfl,hV⟩:=h0;simp only[jK] at h
   cases hpl:place i with
   | none=>simp[hpl] at h
   | some q=>
    obtain⟨off,size⟩:=q;simp only[hpl] at h;obtain⟨hc1,h9⟩:=aK h;simp only[Bool.and_eq_true] at hc1;have e1:=cP hc1.1;have e2:=iO hc1.2;have hvc:=hV.cells;have hl1:=hvc.1;have hl2:=hc.1
    have hsz:v.cells.size=size:=by simp at hl1;omega
    have hcs:cells'.size=cells.length:=by simp at hl2;omega
    have hst:(v.cells.zipIdx.foldl (λcs (c,j)=>cs.setIfInBounds (off+j) c) cells').toList=cells'.toList.take off++(v.cells.toList++cells'.toList.drop (off+v.cells.toList.length)):=by
     have:=AF off v.cells.toList 0 cells' (by simp;omega);rw[<-Array.foldl_toList,Array.toList_zipIdx];simpa using this
    obtain⟨r',hr',hV'⟩:=r8 parts parts' _ (v.cells.zipIdx.foldl (λcs (c,j)=>cs.setIfInBounds (off+j) c) cells') r h9
     ⟨by have:=hp.1;simpa using this,λi a v x y=>hp.2 (i+1) a v (by simpa using x) (by simpa using y)⟩
     (by
      rw[hst];refine(hc.take off).append (hvc.append ?_)
      have:off+v.cells.toList.length=off+size:=by simp[hsz]
      rw[this]
      exact hc.drop _)
    refine⟨r',?_,hV'⟩;simp only[Instr.fill,hpl];rw[if_neg (by simp;omega)];exact hr'
theorem uy{σ:Sg}{t:Tr AV}{ρ:Operand->Value}(hρ:∀x a,ev t x=some a->V σ a (ρ x)):∀(l:List (Nat×Operand)) (ps:List (Nat×AV)),k7 t l=some ps->
 PL σ ps (l.map λ(i,x)=>(i,ρ x))
 | [],ps,h=>by simp[k7] at h;subst h;exact⟨rfl,λi a v x _=>by simp at x⟩
 | (k,x)::l,ps,h=>by
  simp only[k7,mapM_cons] at h
  cases h1:ev t x with
  | none=>simp[h1] at h
  | some a=>
   cases h2:l.mapM (λp=>(ev t p.2).map λv=>(p.1,v)) with
   | none=>simp[h1,h2] at h
   | some qs=>
    simp[h1,h2] at h;subst h;obtain⟨i1,i2⟩:=uy hρ l qs h2;refine⟨by simpa using i1,?_⟩;intro i a' v hx hy
    cases i with
    | zero=>simp at hx hy;subst hx;subst hy;exact⟨rfl,hρ x a h1⟩
    | succ i=>exact i2 i a' v (by simpa using hx) (by simpa using hy)
theorem oa{σ:Sg}{t:Tr AV}{ρ:Operand->Value}(hρ:∀x a,ev t x=some a->V σ a (ρ x)):∀(l:List Operand) (aS:List AV),tF t l=some aS->VL σ aS (l.map ρ)
 | [],aS,h=>by simp[tF] at h;subst h;exact .nil
 | x::l,aS,h=>by
  simp only[tF,mapM_cons] at h
  cases h1:ev t x with
  | none=>simp[h1] at h
  | some a=>
   cases h2:l.mapM (ev t) with
   | none=>simp[h1,h2] at h
   | some bs=>simp[h1,h2] at h;subst h;exact .cons (hρ x a h1) (oa hρ l bs h2)
theorem qS{P:Program}{w:World}{α β:Type}{f:α->Sem β}{g:α->β}:∀(l:List α),(∀x∈l,(f x).run P w=.ok (g x) w)->(l.mapM f).run P w=.ok (l.map g) w
 | [],_=>by simp
 | x::l,h=>by
  rw[mapM_cons];simp only[Sem.run_bind,h x (by simp),Result.andThen_ok,qS l (λy hy=>h y (by simp[hy])),Sem.run_pure,List.map_cons]
theorem yc{P:Program}{w:World}{α β:Type}{f:α->Sem β}{g:α->β}(l:Array α)(h:∀x∈l.toList,(f x).run P w=.ok (g x) w):(l.mapM f).run P w=.ok (l.map g) w:=by
 have e:l.mapM f=Functor.map List.toArray (l.toList.mapM f):=by
  obtain⟨l⟩:=l;exact List.mapM_toArray
 rw[e,Sem.run_map,qS l.toList h];show Result.ok (l.toList.map g).toArray w=_;obtain⟨l⟩:=l;simp
theorem Gw{P:Program}{σ:Sg}{w:World}{t:TypeId}{parts:List (Nat×AV)}{parts':Array (Nat×Value)}{r:AV}(h:tO P t parts=some r)
 (hp:PL σ parts parts'.toList):
 ∃v,(Instr.build t parts').run P w=.ok v w/\V σ r v:=by
 unfold tO at h
 cases hz:dm P t with
 | none=>simp[hz] at h
 | some z=>
  simp only[hz,bind_some] at h;obtain⟨zv,hzr,hzV,_⟩:=gR (w:=w) (σ:=σ) hz;split at h
  ·rename_i fs hu;obtain⟨hall,h9⟩:=aK h
   cases hf:jK (uA P fs) z.cells parts with
   | none=>simp[hf] at h9
   | some cs=>
    simp only[hf,map_some,Option.some.injEq] at h9;subst h9;obtain⟨r',hr',hV⟩:=r8 parts parts'.toList z.cells zv.cells cs hf hp hzV.cells
    have hsz:∀f∈fs.toList,(do pure (f.offset,<-sizeOf f.type):Sem (Nat×Nat)).run P w=.ok (f.offset,(cx P f.type).getD 0) w:=by
     intro f hf';have:=List.all_eq_true.1 hall f hf'
     cases hs:cx P f.type with
     | none=>simp[hs] at this
     | some n=>simp[bT hs]
    have hpl:(λi=>(fs.map λf=>(f.offset,(cx P f.type).getD 0))[i]?)=uA P fs:=by
     funext i;simp only[uA,Array.getElem?_map]
     cases hfi:fs[i]? with
     | none=>rfl
     | some f=>
      simp only[map_some,bind_some]
      have hmem:f∈fs.toList:=by simpa using Array.mem_of_getElem? hfi
      have:=List.all_eq_true.1 hall f hmem
      cases hs:cx P f.type with
      | none=>simp[hs] at this
      | some n=>simp
    refine⟨.agg r',?_,.wq hV⟩;simp only[Instr.build,Sem.run_bind,hzr,Result.andThen_ok,aN hu,yc fs hsz];simp only[hpl,hr',Sem.run_pure]
  ·rename_i n e hu
   cases hs:cx P e with
   | none=>simp[hs] at h
   | some s=>
    simp only[hs,bind_some] at h
    cases hf:jK (λi=>some (i*s,s)) z.cells parts with
    | none=>simp[hf] at h
    | some cs=>
     simp only[hf,map_some,Option.some.injEq] at h;subst h;obtain⟨r',hr',hV⟩:=r8 parts parts'.toList z.cells zv.cells cs hf hp hzV.cells;refine⟨.agg r',?_,.wq hV⟩;simp only[Instr.build,Sem.run_bind,hzr,Result.andThen_ok,aN hu,bT hs,hr',Sem.run_pure]
  ·simp at h
theorem fH(z:List AV):∀n,(rep z n).length=n*z.length
 | 0=>by simp[rep]
 | n+1=>by simp[rep,fH z n,Nat.succ_mul];omega
theorem I5(z:List AV)(hz:0<z.length):∀(n i:Nat),i<n*z.length->(rep z n)[i]?=z[i%z.length]?
 | 0,i,h=>by simp at h
 | n+1,i,h=>by
  simp only[rep,List.getElem?_append];by_cases hi:i<z.length
  ·rw[if_pos hi,Nat.mod_eq_of_lt hi]
  ·rw[if_neg hi,I5 z hz n _ (by rw[Nat.succ_mul] at h;omega)];rw[Nat.mod_eq_sub_mod (a:=i) (by omega)]
theorem Cl{σ:Sg}{z:List AV}{zv:Array Value}(h:VL σ z zv.toList)(hz:0<z.length)(n:Nat):VL σ (rep z n) ((range (n*z.length)).map λi=>zv[i%z.length]!).toList:=by
 refine⟨by simp[fH],?_⟩;intro i a v ha hv
 have hi:i<n*z.length:=by
  rcases Nat.lt_or_ge i (n*z.length) with h | h
  ·exact h
  ·rw[List.getElem?_eq_none (by rw[fH];omega)] at ha;simp at ha
 rw[I5 z hz n i hi] at ha;simp only[Array.toList_map,Array.toList_range,List.getElem?_map,List.getElem?_range hi,map_some,Option.some.injEq] at hv;obtain⟨u,hu,hV⟩:=h.get ha
 have:zv[i%z.length]?=some u:=by simpa using hu
 rw[<-hv];rw[Array.getElem!_eq_getD,Array.getD_eq_getD_getElem?,this];exact hV
theorem vF{P:Program}{σ:Sg}{w:World}{t:TypeId}{len s:Nat}{cs:List AV}{parts:List (Nat×AV)}{parts':Array (Nat×Value)}(h:gq P t len parts=some (s,cs))
 (hp:PL σ parts parts'.toList):
 ∃(c:Array Value) (e:TypeId),(Instr.buildSlice t len parts').run P w=.ok (.slice (some ⟨w.heap.size,0,none⟩) len len) { w with heap:=w.heap.push (.cells c e (0,0)) }/\VL σ cs c.toList/\cs.length=len*s:=by
 unfold gq at h;split at h
 ·rename_i e hu
  cases hs:cx P e with
  | none=>simp[hs] at h
  | some s'=>
   cases hz:dm P e with
   | none=>simp[hs,hz] at h
   | some z=>
    simp only[hs,hz,bind_some] at h;obtain⟨hc,h9⟩:=aK h;simp only[and_eq_true] at hc;obtain⟨hle,hlen,hpos⟩:=hc;have hle:=iO hle;have hlen:=cP hlen
    have hpos:s'≠0:=by intro e0;subst e0;simp at hpos
    cases hf:jK (λi=>some (i*s',s')) (rep z.cells len) parts with
    | none=>simp[hf] at h9
    | some cs'=>
     simp only[hf,map_some,Option.some.injEq,Prod.mk.injEq] at h9;obtain⟨rfl,rfl⟩:=h9;obtain⟨zv,hzr,hzV,_⟩:=gR (w:=w) (σ:=σ) hz
     have hzl:zv.cells.size=s':=by have:=hzV.cells.1;simp at this;omega
     have hrep:=Cl hzV.cells (by omega) len;rw[hlen] at hrep;obtain⟨r',hr',hV⟩:=r8 parts parts'.toList (rep z.cells len) ((range (len*s')).map λi=>zv.cells[i%s']!) cs' hf hp hrep;refine⟨r',e,?_,hV,?_⟩
     ·simp only[Instr.buildSlice,Sem.run_bind,aN hu,Result.andThen_ok,bT hs];rw[if_neg (by simpa using hle)];by_cases h0:len*s'=0
      ·simp only[h0,if_true,Sem.run_bind,Sem.run_pure,Result.andThen_ok]
       have he:((range 0).map λi=>(#[]:Array Value)[i%(#[]:Array Value).size]!)=((range (len*s')).map λi=>zv.cells[i%s']!):=by rw[h0];simp
       rw[he,hr'];simp[newRow]
      ·simp only[h0,if_false,Sem.run_bind,hzr,Result.andThen_ok,Sem.run_pure,hzl,hr'];simp[newRow]
     ·have:∀(ps:List (Nat×AV)) (a b:List AV),jK (λi=>some (i*s',s')) a ps=some b->b.length=a.length:=by
       intro ps
       induction ps with
       | nil=>intro a b hb;simp[jK] at hb;rw[hb]
       | cons p ps ih=>
        intro a b hb;obtain⟨i,v⟩:=p;simp only[jK] at hb;obtain⟨hc,hb⟩:=aK hb;simp only[and_eq_true] at hc;have e1:=cP hc.1;have e2:=iO hc.2;rw[ih _ _ hb];simp;omega
      rw[this _ _ _ hf,fH,hlen]
 ·simp at h
theorem j6{P:Program}{σ:Sg}{w:World}{x:AV}{v:Value}{n:Nat}(h:c9 x=some n)(hv:V σ x v):∃k,v=.int k (n:Int)/\(asIntOf v).run P w=.ok (k,(n:Int)) w:=by
 unfold c9 at h;split at h
 ·simp only[Option.some.injEq] at h;subst h;cases hv;exact⟨_,rfl,rfl⟩
 ·simp at h
theorem xh{P:Program}{σ:Sg}{w:World}{s:TypeId}{x:AV}{v:Value}{f:Nat}{r:AV}(h:iP P s x f=some r)(hv:V σ x v):∃z,(Instr.fieldAt s v f).run P w=.ok z w/\V σ r z:=by
 unfold iP at h;split at h
 ·rename_i fs id off hu
  cases hf:fs[f]? with
  | none=>simp[hf] at h
  | some fd=>
   simp only[hf,bind_some] at h
   cases hs:cx P fd.type with
   | none=>simp[hs] at h
   | some n=>
    simp only[hs,bind_some] at h;cases hn:Nat.beq n 0
    ·rw[hn,ao] at h;simp only[Option.some.injEq] at h;subst h;have hn0:n≠0:=gM hn
     cases hv with
     | ptr hp=>
      refine⟨_,?_,.ptr (off:=off+fd.offset) hp⟩;simp only[Instr.fieldAt,Sem.run_bind,aN hu,Result.andThen_ok,hf,Instr.sureAddr,Sem.run_pure,fieldPlace,bT hs,hn0,if_false,gp,add_assoc]
    ·simp[hn] at h
 ·simp at h
theorem GI{P:Program}{σ:Sg}{w:World}{s:TypeId}{x:AV}{v:Value}{f:Nat}{r:AV}(h:tY P s x f=some r)(hv:V σ x v):∃z,(Instr.field s v f).run P w=.ok z w/\V σ r z:=by
 unfold tY at h;split at h
 ·rename_i fs cs hu
  cases hf:fs[f]? with
  | none=>simp[hf] at h
  | some fd=>
   simp only[hf,bind_some] at h;obtain⟨vs,rfl,hvs⟩:=hv.nb;obtain⟨z,hz,hV⟩:=iY (w:=w) hvs h;exact⟨z,by simp only[Instr.field,Sem.run_bind,aN hu,Result.andThen_ok,hf,asAgg,Sem.run_pure];exact hz,hV⟩
 ·simp at h
theorem xz{P:Program}{σ:Sg}{w:World}{t:TypeId}{x i:AV}{v u:Value}{r:AV}(h:jW P t x i=some r)(hv:V σ x v)(hi:V σ i u):∃z,(Instr.indexAt t v u).run P w=.ok z w/\V σ r z:=by
 unfold jW at h
 cases hn:c9 i with
 | none=>simp[hn] at h
 | some n=>
  simp only[hn,bind_some] at h;obtain⟨k,rfl,hk⟩:=j6 (P:=P) (w:=w) hn hi;split at h
  ·rename_i m e id off hu
   cases hs:cx P e with
   | none=>simp[hs] at h
   | some s=>
    simp only[hs,bind_some] at h;obtain⟨hlt,h9⟩:=aK h;have hlt:=fQ hlt;simp only[Option.some.injEq] at h9;subst h9
    cases hv with
    | ptr hp=>
     refine⟨_,?_,.ptr (off:=off+n*s) hp⟩;simp only[Instr.indexAt,Sem.run_bind,hk,Result.andThen_ok,aN hu,Instr.sureAddr,Sem.run_pure]
     have:(0:Int)<=(n:Int)/\(n:Int)<(m:Int):=by omega
     cases hm:decide (m<=1)<;>simp[this,bT hs,gp,add_assoc]
  ·rename_i e id off len es c hu
   cases hs:cx P e with
   | none=>simp[hs] at h
   | some s=>
    simp only[hs,bind_some] at h;obtain⟨hc,h9⟩:=aK h;simp only[and_eq_true] at hc;have hlt:=fQ hc.1;have:=cP hc.2;subst this;simp only[Option.some.injEq] at h9;subst h9
    cases hv with
    | slice hp hl hr hcap ha=>
     have ha:=ha.resolve_right (by omega);subst ha;refine⟨_,?_,.ptr (off:=off+n*s) hp⟩;simp only[Instr.indexAt,Sem.run_bind,hk,Result.andThen_ok,aN hu,Sem.run_pure]
     have:(0:Int)<=(n:Int)/\(n:Int)<(len:Int):=by omega
     cases hm:decide (len<=1)<;>simp[this,bT hs,gp,add_assoc]
  ·simp at h
theorem GN{P:Program}{σ:Sg}{w:World}{t:TypeId}{x i:AV}{v u:Value}{r:AV}(h:ue P t x i=some r)(hv:V σ x v)(hi:V σ i u):∃z,(Instr.index t v u).run P w=.ok z w/\V σ r z:=by
 unfold ue at h
 cases hn:c9 i with
 | none=>simp[hn] at h
 | some n=>
  simp only[hn,bind_some] at h;obtain⟨k,rfl,hk⟩:=j6 (P:=P) (w:=w) hn hi;split at h
  ·rename_i m e cs hu
   cases hs:cx P e with
   | none=>simp[hs] at h
   | some s=>
    simp only[hs,bind_some] at h;obtain⟨hlt,h9⟩:=aK h;have hlt:=fQ hlt;obtain⟨vs,rfl,hvs⟩:=hv.nb;obtain⟨z,hz,hV⟩:=iY (w:=w) hvs h9;refine⟨z,?_,hV⟩
    have:(0:Int)<=(n:Int)/\(n:Int)<(m:Int):=by omega
    simp only[Instr.index,Sem.run_bind,hk,Result.andThen_ok,aN hu,this,and_self,if_true,bT hs,Int.toNat_natCast,hz]
  ·rename_i s hu
   cases hb:s[n]? with
   | none=>simp[hb] at h
   | some b=>
    simp only[hb,map_some,Option.some.injEq] at h;subst h
    cases hv with
    | @str _ bs hs=>
     rw[<-hs,List.getElem?_map] at hb
     cases hb':bs.data.toList[n]? with
     | none=>simp[hb'] at hb
     | some c=>
      simp only[hb',map_some,Option.some.injEq] at hb;subst hb;refine⟨.int .u8 c.toNat,?_,.int _ _⟩
      have hlt:n<bs.size:=by
       rcases Nat.lt_or_ge n bs.data.toList.length with h | h
       ·simpa using h
       ·simp[List.getElem?_eq_none h] at hb'
      have hg:bs[n]?=some c:=by
       rw[getElem?_pos bs n hlt]
       have:bs.data.toList[n]?=some bs.data[n]:=by simp
       rw[this] at hb';exact hb'
      simp only[Instr.index,Sem.run_bind,hk,Result.andThen_ok,aN hu];rw[if_pos (by omega),Int.toNat_natCast,hg];rfl
  ·simp at h
def VO(σ:Sg)(x:Option AV)(v:Option Value):Prop:=match x,v with
 | none,none=>True
 | some x,some v=>V σ x v
 | _,_=>False
theorem ew{P:Program}{σ:Sg}{w:World}{x:AV}{v:Value}{n y:Nat}(h:c9 x=some n)(hv:V σ x v)(hle:n<=y)(code:BoundsCode):(Instr.sliceBound v y code).run P w=.ok n w:=by
 obtain⟨k,rfl,hk⟩:=j6 (P:=P) (w:=w) h hv;simp only[Instr.sliceBound,Sem.run_bind,hk,Result.andThen_ok];rw[if_pos (by omega)];simp
def QJ(isS:Bool)(len c:Nat)(hi:Option Value):Sem Nat:=match hi with
 | some v=>Instr.sliceBound v c (if isS then .sliceAcap else .sliceAlen)
 | none=>pure len
def QB(h:Nat)(lo:Option Value):Sem Nat:=match lo with
 | some v=>Instr.sliceBound v h .sliceB
 | none=>pure 0
theorem yi{P:Program}{w:World}(isS:Bool)(len c:Nat)(lo hi:Option Value):
 (Instr.sliceBounds isS len c lo hi none).run P w=((QJ isS len c hi).run P w).andThen λh w1=>((QB h lo).run P w1).andThen λl w2=>.ok (l,h,c) w2:=by
 cases hi<;>cases lo<;>simp[Instr.sliceBounds,QJ,QB]
theorem nV{P:Program}{σ:Sg}{w:World}{len c:Nat}{cap:Option Nat}{lo hi mx:Option AV}{lo' hi' mx':Option Value}{l h:Nat}{m:Option Nat}(isS:Bool)
 (hb:cF len cap lo hi mx=some (l,h,m)) (hlen:len<=c) (hcap:∀x,cap=some x->x=c) (h1:VO σ lo lo') (h2:VO σ hi hi') (h3:VO σ mx mx'):
 ∃m',(Instr.sliceBounds isS len c lo' hi' mx').run P w=.ok (l,h,m') w/\l<=h/\h<=m'/\m'<=c/\(∀x,m=some x->x=m'):=by
 have fitsle:∀n,ny len cap n=true->n<=c:=by
  intro n hn;simp only[ny,Bool.or_eq_true] at hn
  rcases hn with hn | hn
  ·have:=iO hn;omega
  ·cases cap with
   | none=>simp at hn
   | some x=>have:=hcap x rfl;have:=iO hn;omega
 unfold cF at hb
 cases mx with
 | some v3=>
  cases mx' with
  | none=>exact h3.elim
  | some u3=>
   simp only at hb
   cases hm:c9 v3 with
   | none=>simp[hm] at hb
   | some m0=>
    simp only[hm,bind_some] at hb;obtain⟨hf,hb⟩:=aK hb;have hmc:=fitsle _ hf
    cases hi with
    | none=>simp at hb
    | some v2=>
     cases hi' with
     | none=>exact h2.elim
     | some u2=>
      simp only at hb
      cases hh:c9 v2 with
      | none=>simp[hh] at hb
      | some h0=>
       simp only[hh,bind_some] at hb;obtain⟨hhm,hb⟩:=aK hb;have hhm:=iO hhm
       cases lo with
       | none=>
        cases lo' with
        | some _=>exact h1.elim
        | none=>
         simp only[Option.some.injEq,Prod.mk.injEq] at hb;obtain⟨rfl,rfl,rfl⟩:=hb;refine⟨m0,?_,by omega,hhm,hmc,λx hx=>by simpa using hx.symm⟩;simp only[Instr.sliceBounds,Sem.run_bind,ew hm h3 hmc,Result.andThen_ok,ew hh h2 hhm,Sem.run_pure]
       | some v1=>
        cases lo' with
        | none=>exact h1.elim
        | some u1=>
         simp only at hb
         cases hl:c9 v1 with
         | none=>simp[hl] at hb
         | some l0=>
          simp only[hl,bind_some] at hb;obtain⟨hlh,hb⟩:=aK hb;have hlh:=iO hlh;simp only[Option.some.injEq,Prod.mk.injEq] at hb;obtain⟨rfl,rfl,rfl⟩:=hb;refine⟨m0,?_,hlh,hhm,hmc,λx hx=>by simpa using hx.symm⟩;simp only[Instr.sliceBounds,Sem.run_bind,ew hm h3 hmc,Result.andThen_ok,ew hh h2 hhm,ew hl h1 hlh,Sem.run_pure]
 | none=>
  cases mx' with
  | some _=>exact h3.elim
  | none=>
   simp only at hb
   have hh:∃h0,mF len cap hi=some h0/\h0<=c/\
    (QJ isS len c hi').run P w=.ok h0 w:=by
    cases hi with
    | none=>
     cases hi' with
     | some _=>exact h2.elim
     | none=>exact⟨len,rfl,hlen,rfl⟩
    | some v2=>
     cases hi' with
     | none=>exact h2.elim
     | some u2=>
      cases hn:c9 v2 with
      | none=>simp[mF,hn] at hb
      | some h0=>
       cases hf:ny len cap h0 with
       | false=>simp[mF,hn,hf] at hb
       | true=>exact⟨h0,by simp[mF,hn,hf],fitsle _ hf,ew hn h2 (fitsle _ hf) _⟩
   obtain⟨h0,e1,e2,e3⟩:=hh;simp only[e1,bind_some] at hb
   have e4:(Instr.sliceBounds isS len c lo' hi' none).run P w=((QB h0 lo').run P w).andThen λl w2=>.ok (l,h0,c) w2:=by
    rw[yi,e3,Result.andThen_ok]
   cases lo with
   | none=>
    cases lo' with
    | some _=>exact h1.elim
    | none=>
     simp only[Option.some.injEq,Prod.mk.injEq] at hb;obtain⟨rfl,rfl,rfl⟩:=hb;exact⟨c,by rw[e4];rfl,by omega,e2,le_refl _,hcap⟩
   | some v1=>
    cases lo' with
    | none=>exact h1.elim
    | some u1=>
     simp only at hb
     cases hl:c9 v1 with
     | none=>simp[hl] at hb
     | some l0=>
      simp only[hl,bind_some] at hb;obtain⟨hlh,hb⟩:=aK hb;have hlh:=iO hlh;simp only[Option.some.injEq,Prod.mk.injEq] at hb;obtain⟨rfl,rfl,rfl⟩:=hb;refine⟨c,?_,hlh,e2,le_refl _,hcap⟩;rw[e4];simp only[QB,ew hl h1 hlh,Result.andThen_ok]
theorem xD{m:Option Nat}{l m' x:Nat}(hm:∀x,m=some x->x=m')(h:aP m l=some x):x=m'-l:=by
 cases m with
 | none=>simp[aP] at h
 | some y=>simp[aP] at h;rw[<-h,hm y rfl]
theorem Hi{P:Program}{σ:Sg}{h:H}{w:World}(hr:HR σ h w){t:TypeId}{x r:AV}{v:Value}{lo hi mx:Option AV}{lo' hi' mx':Option Value}(hs:uF P h t x lo hi mx=some r)
 (hv:V σ x v) (h1:VO σ lo lo') (h2:VO σ hi hi') (h3:VO σ mx mx'):∃z,(Instr.sliceAt t v lo' hi' mx').run P w=.ok z w/\V σ r z:=by
 unfold uF at hs;split at hs
 ·rename_i n e id off hu
  cases hsz:cx P e with
  | none=>simp[hsz] at hs
  | some s=>
   simp only[hsz,bind_some] at hs
   cases hb:cF n (some n) lo hi mx with
   | none=>simp[hb] at hs
   | some q=>
    obtain⟨l,hh,m⟩:=q;simp only[hb,bind_some] at hs;obtain⟨m',hrun,a1,a2,a3,a4⟩:=nV (P:=P) (w:=w) false hb (le_refl _) (λx hx=>by simpa using hx.symm) h1 h2 h3
    cases m with
    | none=>simp at hs
    | some m=>
     have:=a4 m rfl;subst this;simp only at hs;split at hs
     ·rename_i cs f ho;obtain⟨hle,hs⟩:=aK hs;have hle:=iO hle;simp only[Option.some.injEq] at hs;subst hs
      cases hv with
      | ptr hp=>
       obtain⟨q,c,e',hq,b1,b2,b3,b4⟩:=hr.cells ho;rw[hp] at hq;cases hq;refine⟨_,by simp only[Instr.sliceAt,Sem.run_bind,aN hu,Result.andThen_ok,Instr.sureAddr,Sem.run_pure,hrun,bT hsz];rfl,?_⟩
       have hmul:l*s+(m-l)*s=m*s:=by rw[<-Nat.add_mul];congr 1;omega
       have hmn:m*s<=n*s:=Nat.mul_le_mul_right _ a3;refine .slice hp (by omega) (by omega) (λx hx=>by simpa using hx.symm) ?_;by_cases hml:m=l
       ·right;omega
       ·left;rw[if_neg hml,gp,add_assoc]
     ·simp at hs
 ·rename_i s hu
  cases mx with
  | some _=>simp at hs
  | none=>
   cases mx' with
   | some _=>exact h3.elim
   | none=>
    simp only at hs
    cases hb:cF s.length (some s.length) lo hi none with
    | none=>simp[hb] at hs
    | some q=>
     obtain⟨l,hh,m⟩:=q;simp only[hb,map_some,Option.some.injEq] at hs;subst hs
     cases hv with
     | @str _ bs hbs=>
      have hsize:=tc hbs;rw[<-hsize] at hb;obtain⟨m',hrun,a1,a2,a3,a4⟩:=nV (P:=P) (w:=w) (mx':=none) false hb (le_refl _) (λx hx=>by simpa using hx.symm) h1 h2 trivial;refine⟨.string (bs.extract l hh),?_,.str ?_⟩
      ·simp only[Instr.sliceAt,Sem.run_bind,aN hu,Result.andThen_ok,Instr.slice,Option.isSome_none,Bool.false_eq_true,if_false,hrun,Sem.run_pure]
      ·rw[<-hbs]
       have:(bs.extract l hh).data.toList=(bs.data.toList.drop l).take (hh-l):=by
        rw[ByteArray.data_extract];simp[List.extract_eq_take_drop]
       rw[this];simp
 ·rename_i e o len es cap hu
  cases hsz:cx P e with
  | none=>simp[hsz] at hs
  | some s=>
   simp only[hsz,bind_some] at hs
   cases hb:cF len cap lo hi mx with
   | none=>simp[hb] at hs
   | some q=>
    obtain⟨l,hh,m⟩:=q;simp only[hb,bind_some] at hs
    cases o with
    | none=>
     simp only[Option.some.injEq] at hs;subst hs
     cases hv with
     | ic hl0=>
      subst hl0;obtain⟨m',hrun,a1,a2,a3,a4⟩:=nV (P:=P) (w:=w) (c:=0) true hb (le_refl _) (λx hx=>by simpa using hx.symm) h1 h2 h3
      have:m'=0:=by omega
      subst this
      have:hh=0:=by omega
      subst this
      have:l=0:=by omega
      subst this;exact⟨_,by simp only[Instr.sliceAt,Sem.run_bind,aN hu,Result.andThen_ok,Instr.slice,hrun,bT hsz,Sem.run_pure,if_true],.ic rfl⟩
    | some q=>
     obtain⟨id,off⟩:=q;obtain⟨hes,hs9⟩:=aK hs;clear hs;have:=cP hes;subst this;simp only[Option.some.injEq] at hs9;subst hs9
     cases hv with
     | @slice _ _ _ _ _ a p c hp hl hroom hcap ha=>
      obtain⟨m',hrun,a1,a2,a3,a4⟩:=nV (P:=P) (w:=w) true hb hl hcap h1 h2 h3;refine⟨_,by simp only[Instr.sliceAt,Sem.run_bind,aN hu,Result.andThen_ok,Instr.slice,hrun,bT hsz,Sem.run_pure];rfl,?_⟩
      have hmul:l*s+(m'-l)*s=m'*s:=by rw[<-Nat.add_mul];congr 1;omega
      have hmn:m'*s<=c*s:=Nat.mul_le_mul_right _ a3;by_cases hml:m'=l
      ·rw[if_pos hml];exact .slice hp (by omega) (by omega) (λx hx=>xD a4 hx) (.inr (by omega))
      ·rw[if_neg hml];have ha:=ha.resolve_right (by omega);subst ha;exact .slice hp (by omega) (by omega) (λx hx=>xD a4 hx) (.inl (by show Addr.add _ _=_;rw[gp,add_assoc]))
 ·simp at hs
theorem wrap_small(n:Nat)(h:n<=1000000000000):IntKind.i64.wrap (n:Int)=(n:Int):=by
 have h1:decide (LX .i64<=(n:Int))=true:=decide_eq_true (show(-9223372036854775808:Int)<=(n:Int) by omega);have h2:decide ((n:Int)<=LJ .i64)=true:=decide_eq_true (show(n:Int)<=(9223372036854775807:Int) by omega);rw[<-gL];unfold dH;rw[gP,gP,h1,h2];rfl
theorem xM{P:Program}{σ:Sg}{w:World}{t:TypeId}{l c:AV}{l' c':Value}{n s m:Nat}{cs:List AV}(h:eS P t l c=some (n,s,m,cs))(hl:V σ l l')(hc:V σ c c'):
 ∃(a:Array Value) (e:TypeId),(Instr.makeSlice t l' c').run P w=.ok (.slice (some ⟨w.heap.size,0,none⟩) n m) { w with heap:=w.heap.push (.cells a e (0,0)) }/\VL σ cs a.toList/\n<=m/\cs.length=m*s:=by
 unfold eS at h;split at h
 ·rename_i e hu
  cases h1:c9 l with
  | none=>simp[h1] at h
  | some l0=>
   cases h2:c9 c with
   | none=>simp[h1,h2] at h
   | some c0=>
    cases hi:P.info? e with
    | none=>simp[h1,h2,hi] at h
    | some i=>
     cases hz:dm P e with
     | none=>simp[h1,h2,hi,hz] at h
     | some z=>
      simp only[h1,h2,hi,hz,bind_some] at h;obtain⟨hcd,h⟩:=aK h;simp only[and_eq_true] at hcd;obtain⟨q1,q2,q3,q4,q5⟩:=hcd;have q1:=iO q1;have q2:=iO q2;have q3:=iO q3;have q4:=cP q4
      have q5:i.size≠0:=by intro e0;rw[e0] at q5;simp at q5
      simp only[Option.some.injEq,Prod.mk.injEq] at h;obtain⟨rfl,rfl,rfl,rfl⟩:=h;obtain⟨k1,rfl,hk1⟩:=j6 (P:=P) (w:=w) h1 hl;obtain⟨k2,rfl,hk2⟩:=j6 (P:=P) (w:=w) h2 hc;obtain⟨zv,hzr,hzV,i',hi',hzi⟩:=gR (w:=w) (σ:=σ) hz;rw[hi] at hi';cases hi'
      have hzl:zv.cells.size=i.size:=by have:=hzV.cells.1;simp at this;omega
      have hrep:=Cl hzV.cells (by omega) c0;rw[q4] at hrep;have w1:IntKind.i64.wrap (l0:Int)=(l0:Int):=wrap_small _ (by omega);have w2:IntKind.i64.wrap (c0:Int)=(c0:Int):=wrap_small _ (by omega)
      have hbc0:i.bytes*c0<=10000000000:=by have:=Nat.mul_le_mul q3 q2;omega
      have hbc:(i.bytes:Int)*(c0:Int)<=10000000000:=by rw[<-Int.natCast_mul];omega
      refine⟨_,e,?_,hrep,q1,by rw[fH,q4]⟩;simp only[Instr.makeSlice,Sem.run_bind,aN hu,Result.andThen_ok,asInt,hk1,hk2,Sem.run_pure,cY hi,w1,w2]
      have g1:¬((decide ((c0:Int)<0)||decide ((i.bytes:Int)*(c0:Int)>2^48))||decide ((l0:Int)<0)||decide ((l0:Int)>(c0:Int)))=true:=by
       simp only[Bool.or_eq_true,decide_eq_true_eq,not_or];refine⟨⟨⟨by omega,by omega⟩,by omega⟩,by omega⟩
      rw[if_neg g1];simp only[Sem.run_bind,run_askRoom,Result.andThen_ok,bT (show cx P e=some i.size by simp[cx,hi]),Int.toNat_natCast];by_cases h0:c0*i.size=0
      ·have hr0:range 0=(#[]:Array Nat):=rfl;simp only[h0,if_true,Sem.run_bind,Sem.run_pure,Result.andThen_ok,newRow,run_newObj];simp[hr0]
      ·simp only[h0,if_false,Sem.run_bind,hzr,Result.andThen_ok,Sem.run_pure,newRow,run_newObj,hzl]
 ·simp at h
end Go.Ev
