/- Lemmas of this claim, each with its conditions. -/
import Derived.Test.YtchdmmkclcnmnaaGreatA5
import Derived.Laws.Build
set_option linter.all false
open List (mem_singleton mem_map)
open Nat (blt ble)
open Array renaming getElem?_toList -> aa, toList_append -> ac, toList_map -> ad, getD_eq_getD_getElem? -> aj, length_toList -> ap, getElem?_eq_getElem -> ay, toList_filter -> a6
open List renaming getElem?_eq_getElem -> af, take_of_length_le -> a2, singleton_append -> a3, mem_of_getElem? -> a4, nil_append -> a5, getElem?_map -> a7, append_nil -> ba
open Option renaming bind_some -> ag, map_some -> a9
open Bool renaming false_eq_true -> ax
open Nat renaming le_refl -> a1, zero_add -> a8
namespace Go.Ev
def Ai(b:Nat):∀l:List Nat,seenIn b l=l.contains b
 | []=>rfl
 | x::l=>by
  simp only[seenIn,List.contains_cons,Ai b l]
  congr 1
  cases h:Nat.beq x b
  ·have:=iB h;symm;simp;exact λe=>this e.symm
  ·have:=cU h;subst this;simp
def EL.filter{σ:Sg}{f:AV×AV×Nat->Bool}{g:MapEntry->Bool}(hfg:∀e m,ER σ e m->f e=g m):∀(es:List (AV×AV×Nat)) (l:List MapEntry),EL σ es l->EL σ (es.filter f) (l.filter g)
 | [],l,h=>by have:=h.nil;subst this;exact h
 | e::es,l,h=>by
  obtain⟨m,l',rfl,he,hl⟩:=h.cons;have ih:=EL.filter hfg es l' hl;simp only[List.filter_cons,hfg e m he];cases g m
  ·exact ih
  ·exact EL.append (EL.one he) ih
def EL.all{σ:Sg}{f:AV×AV×Nat->Bool}{g:MapEntry->Bool}(hfg:∀e m,ER σ e m->f e=g m):∀(es:List (AV×AV×Nat)) (l:List MapEntry),EL σ es l->es.all f=l.all g
 | [],l,h=>by have:=h.nil;subst this;rfl
 | e::es,l,h=>by
  obtain⟨m,l',rfl,he,hl⟩:=h.cons;simp only[List.all_cons,hfg e m he,EL.all hfg es l' hl]
def EL.isEmpty{σ:Sg}{es:List (AV×AV×Nat)}{l:List MapEntry}(h:EL σ es l):es.isEmpty=l.isEmpty:=by
 have:=h.1;cases es<;>cases l<;>simp_all
def RK{P:Program}{w:World}{n:Nat}(hn:0<n):∃k w',(choose (.mapNext n)).run P w=.ok k w'/\k<n/\w'.heap=w.heap/\w'.os=w.os/\w'.tape=w.tape/\w'.output=w.output:=by
 rw[run_choose];by_cases h:n<=1
 ·have:(Question.mapNext n).forced=true:=by simp[Question.forced,h]
  rw[ul this];exact⟨0,w,rfl,hn,rfl,rfl,rfl,rfl⟩
 ·have:¬(Question.mapNext n).forced=true:=by simp[Question.forced];omega
  rw[un this];exact⟨_,_,rfl,Nat.mod_lt _ hn,rfl,rfl,rfl,rfl⟩
def Mg{P:Program}{σ:Sg}{h:H}{w:World}(hr:HR σ h w){x:AV}{v:Value}{isS:Bool}{T:TypeId}{outs:List (AV×H)}(hl:zz h x isS=some outs)(hv:V σ x v):
 ∃r h',(r,h')∈outs/\Yields P σ h h' w r (Instr.next v isS T):=by
 unfold zz at hl;split at hl
 ·rename_i id
  cases hv with
  | @ptr _ _ p hp=>
   split at hl
   ·rename_i since seen st ho;obtain⟨q,hq,m',g1,g0,g2⟩:=hr.obj id _ ho;rw[hp] at hq;cases hq;simp only at g2;subst g2;simp only[one,Option.some.injEq] at hl;subst hl;refine⟨_,_,mem_singleton.2 rfl,σ,.tuple #[.bool false],w,?_,.gg (.cons (.bool _) .nil),hr,.refl _ _ _⟩;rw[g0];simp only[Instr.next,a8,Sem.run_bind,cA g1 (by simp),Result.andThen_ok,Sem.run_pure]
   ·rename_i m since seen last ho;obtain⟨q,hq,m',g1,g0,g2⟩:=hr.obj id _ ho;rw[hp] at hq;cases hq;simp only at g2;obtain⟨pm,hpm,rfl⟩:=g2
    cases hm:h.mapOf m with
    | none=>simp[hm] at hl
    | some q=>
     obtain⟨es,clock⟩:=q;simp only[hm,ag] at hl;obtain⟨hom,es',k1,k2⟩:=hr.map hm hpm;cases hgone:(!seen.isEmpty&&(!es.isEmpty&&es.all (λe=>ble last e.2.2)))
     ·rw[hgone,an] at hl;simp only[Option.some.injEq] at hl;subst hl
      have hgone':(!seen.toArray.isEmpty&&!es'.isEmpty&&es'.all (λe=>decide (e.born≥last)))=false:=by
       have e1:seen.toArray.isEmpty=seen.isEmpty:=by simp
       have e2:es'.isEmpty=es.isEmpty:=by rw[k2.isEmpty];simp
       have e3:es'.all (λe=>decide (e.born≥last))=es.all (λe=>ble last e.2.2):=by
        rw[<-Array.all_toList,k2.all (g:=λe=>decide (e.born≥last))];intro e mm he;rw[he.2.2];cases hb:ble last mm.born
        ·have:=xQ hb;symm;simp;omega
        ·have:=jq hb;symm;simp;omega
       rw[e1,e2,e3,Bool.and_assoc];exact hgone
      have hleft:EL σ (es.filter λe=>!(seenIn e.2.2 seen)) (es'.toList.filter λe=>!(seen.toArray.contains e.born)):=
       EL.filter (λe mm he=>by rw[Ai,he.2.2];simp) _ _ k2
      have hlt:∀(e:AV×AV×Nat) (mm:MapEntry),ER σ e mm->blt e.2.2 since=decide (mm.born<since):=by
       intro e mm he;rw[he.2.2];cases hb:blt mm.born since
       ·have:=Ka hb;symm;simp;omega
       ·have:=fW hb;symm;simp;omega
      have hold:EL σ ((es.filter λe=>!(seenIn e.2.2 seen)).filter λe=>blt e.2.2 since) ((es'.toList.filter λe=>!(seen.toArray.contains e.born)).filter λe=>decide (e.born<since)):=
       EL.filter hlt _ _ hleft
      have hnew:EL σ ((es.filter λe=>!(seenIn e.2.2 seen)).filter λe=>!(blt e.2.2 since)) ((es'.toList.filter λe=>!(seen.toArray.contains e.born)).filter λe=>decide (e.born≥since)):=
       EL.filter (λe mm he=>by rw[hlt e mm he];by_cases hx:mm.born<since<;>simp[hx]<;>omega) _ _ hleft
      generalize ((es.filter λe=>!(seenIn e.2.2 seen)).filter λe=>blt e.2.2 since)=Oa at hold ⊢;generalize ((es.filter λe=>!(seenIn e.2.2 seen)).filter λe=>!(blt e.2.2 since))=Na at hnew ⊢
      have hcand:((if ((es'.filter λe=>!(seen.toArray.contains e.born)).filter λe=>decide (e.born<since)).isEmpty then #[none] else #[])++
       (((es'.filter λe=>!(seen.toArray.contains e.born)).filter λe=>decide (e.born<since))++((es'.filter λe=>!(seen.toArray.contains e.born)).filter λe=>decide (e.born≥since))).map some:Array (Option MapEntry)).toList=
       (if ((es'.toList.filter λe=>!(seen.toArray.contains e.born)).filter λe=>decide (e.born<since)).isEmpty then [none] else [])++
       (((es'.toList.filter λe=>!(seen.toArray.contains e.born)).filter λe=>decide (e.born<since))++((es'.toList.filter λe=>!(seen.toArray.contains e.born)).filter λe=>decide (e.born≥since))).map some:=by
       have e1:((es'.filter λe=>!(seen.toArray.contains e.born)).filter λe=>decide (e.born<since)).toList=(es'.toList.filter λe=>!(seen.toArray.contains e.born)).filter λe=>decide (e.born<since):=by
        simp only[a6]
       have e2:((es'.filter λe=>!(seen.toArray.contains e.born)).filter λe=>decide (e.born≥since)).toList=(es'.toList.filter λe=>!(seen.toArray.contains e.born)).filter λe=>decide (e.born≥since):=by
        simp only[a6]
       have e3:((es'.filter λe=>!(seen.toArray.contains e.born)).filter λe=>decide (e.born<since)).isEmpty=((es'.toList.filter λe=>!(seen.toArray.contains e.born)).filter λe=>decide (e.born<since)).isEmpty:=by
        rw[<-e1,Array.isEmpty_toList]
       rw[ac,ad,ac,e1,e2,e3];split<;>rfl
      revert hcand
      generalize hC:((if ((es'.filter λe=>!(seen.toArray.contains e.born)).filter λe=>decide (e.born<since)).isEmpty then #[none] else #[])++
       (((es'.filter λe=>!(seen.toArray.contains e.born)).filter λe=>decide (e.born<since))++((es'.filter λe=>!(seen.toArray.contains e.born)).filter λe=>decide (e.born≥since))).map some:Array (Option MapEntry))=C
      intro hcand;generalize ((es'.toList.filter λe=>!(seen.toArray.contains e.born)).filter λe=>decide (e.born<since))=O' at hold hcand;generalize ((es'.toList.filter λe=>!(seen.toArray.contains e.born)).filter λe=>decide (e.born≥since))=N' at hnew hcand;have hON:=hold.append hnew
      have hpos:0<C.size:=by
       rw[<-ap,hcand];cases O'<;>simp
      obtain⟨k,w1,hk,hkn,hw1,e1,e2,e3⟩:=RK (P:=P) (w:=w) hpos
      have hrun:∀c,C[k]?=some c->(Instr.next (.pointer (some ⟨p.b,p.d+0,none⟩)) false T).run P w=(match c with
       | some e=>((setObj p.b (.mapIter (some pm.b) since (seen.toArray.push e.born) clock)).run P w1).andThen λ_ w2=>.ok (.tuple #[.bool true,e.key,e.val]) w2
       | none=>.ok (.tuple #[.bool false]) w1):=by
       intro c hc;rw[g0];simp only[Instr.next,a8,Sem.run_bind,cA g1 (by simp),Result.andThen_ok,cA k1 (by simp),hgone',ax,if_false];simp only[hC,hk,Result.andThen_ok,hc]
       cases c with
       | none=>rfl
       | some e=>simp only[Sem.run_bind,Sem.run_pure]
      have hCk:C[k]?=C.toList[k]?:=by simp
      rw[hcand] at hCk
      have hgo:∀(j:Nat),(∀mm,(O'++N')[j]?=some mm->C[k]?=some (some mm))->j<(O'++N').length->
       (∀e,(Oa++Na)[j]?=some e->((.bE [.bool true,e.1,e.2.1],h.set id (.jg (some m) since (seen++[e.2.2]) clock)):AV×H)∈qg h id m since seen clock Oa Na)->
       ∃r h',(r,h')∈qg h id m since seen clock Oa Na/\Yields P σ h h' w r (Instr.next (.pointer (some ⟨p.b,p.d+0,none⟩)) false T):=by
       intro j h1 hj h2
       have hja:j<(Oa++Na).length:=by have:=hON.1;omega
       have he:=af hja;obtain⟨mm,hm1,hm2⟩:=hON.get he;have hr1:=hr.congr hw1
       have ho1:w1.heap[p.b]?=some (.mapIter (some pm.b) since seen.toArray last):=by rw[hw1];exact g1
       obtain⟨s1,s2⟩:=hr1.j8 (o':=.jg (some m) since (seen++[(Oa++Na)[j].2.2]) clock) (ob:=.mapIter (some pm.b) since (seen.toArray.push mm.born) clock) ho rfl rfl hp
        ⟨some pm.b,by rw[hm2.2.2];simp,g0,pm,hpm,rfl⟩
       refine⟨_,_,h2 _ he,σ,.tuple #[.bool true,mm.key,mm.val],_,?_,.gg (.cons (.bool _) (.cons hm2.1 (.cons hm2.2.1 .nil))),s1,(Ext.of_eq hw1 e1 e2 e3).trans s2⟩;rw[hrun _ (h1 mm hm1)];simp only[eo ho1 (by simp),Result.andThen_ok]
      cases hO:O'.isEmpty
      ·have hOa:Oa.isEmpty=false:=by rw[hold.isEmpty];exact hO
       rw[hO] at hCk;simp only[ax,if_false,a5,a7] at hCk
       have hkl:k<(O'++N').length:=by
        have:=hkn;rw[<-ap,hcand,hO] at this;simpa using this
       refine hgo k (λmm hmm=>by rw[hCk,hmm];rfl) hkl ?_;intro e he;simp only[qg,hOa,an,a5];exact mem_map.2 ⟨e,a4 he,rfl⟩
      ·have hOa:Oa.isEmpty=true:=by rw[hold.isEmpty];exact hO
       rw[hO] at hCk;simp only[if_true] at hCk
       cases k with
       | zero=>
        simp only[a3,List.getElem?_cons_zero] at hCk;refine⟨.bE [.bool false],h,?_,σ,.tuple #[.bool false],w1,?_,.gg (.cons (.bool _) .nil),hr.congr hw1,.of_eq hw1 e1 e2 e3⟩
        ·simp[qg,hOa]
        ·rw[hrun _ hCk]
       | succ k=>
        simp only[a3,List.getElem?_cons_succ,a7] at hCk
        have hkl:k<(O'++N').length:=by
         have:=hkn;rw[<-ap,hcand,hO] at this;simp at this;simp;omega
        refine hgo k (λmm hmm=>by rw[hCk,hmm];rfl) hkl ?_;intro e he;simp only[qg];exact List.mem_append_right _ (mem_map.2 ⟨e,a4 he,rfl⟩)
     ·simp[hgone] at hl
   ·simp at hl
 ·simp at hl
def P2{b i:Nat}{σ:Sg}{es:List (AV×AV×Nat)}{l:Array MapEntry}(h:EL σ es l.toList)(hb:iP b es 0=some i):∃e m,es[i]?=some e/\l.find? (λe=>e.born==b)=some m/\ER σ e m:=by
 obtain⟨h1,h2,⟨x,h3,h4⟩,h5⟩:=sj es 0 i hb;obtain⟨m,hm1,hm2⟩:=h.get (i:=i) (by simpa using h3);refine⟨x,m,by simpa using h3,?_,hm2⟩
 have hi:i<l.size:=by have:=kP hm1;simpa using this
 have hm1':l[i]=m:=by
  have:l[i]?=some m:=by simpa using hm1
  rw[ay hi] at this;simpa using this
 rw[Array.find?_eq_some_iff_getElem];refine⟨by have:=hm2.2.2;simp;omega,i,hi,hm1',?_⟩;intro j hj
 have hjl:j<es.length:=by have:=h.1;simp at this;omega
 have:=h5 j (by omega) _ (af hjl);have hr:=(h.2 j _ (l[j]'(by omega)) (af hjl) (by simp)).2.2;simp;omega
def Im{P:Program}{σ:Sg}{h:H}{w:World}(hr:HR σ h w){x r:AV}{v:Value}(hl:ve h x=some r)(hv:V σ x v):∃z,(Instr.entry v).run P w=.ok z w/\V σ r z:=by
 unfold ve at hl;split at hl
 ·rename_i id
  cases hv with
  | @ptr _ _ p hp=>
   split at hl
   ·rename_i m since seen st ho;obtain⟨q,hq,m',g1,g0,g2⟩:=hr.obj id _ ho;rw[hp] at hq;cases hq;simp only at g2;obtain⟨pm,hpm,rfl⟩:=g2;split at hl
    ·rename_i stamp hst
     cases hm:h.mapOf m with
     | none=>simp[hm] at hl
     | some q=>
      obtain⟨es,c⟩:=q;simp only[hm,ag] at hl;obtain⟨_,es',k1,k2⟩:=hr.map hm hpm;obtain⟨hc,hl2⟩:=aL hl;have hc:=cU hc;subst hc
      cases hb:iP stamp es 0 with
      | none=>simp[hb] at hl2
      | some i=>
       simp only[hb,ag] at hl2;obtain⟨e,mm,f1,f2,f3⟩:=P2 k2 hb;simp only[f1,a9,Option.some.injEq] at hl2;subst hl2;refine⟨.tuple #[mm.key,mm.val],?_,.gg (.cons f3.1 (.cons f3.2.1 .nil))⟩
       have hback:seen.toArray.back?=some stamp:=by simpa using hst
       rw[g0];simp only[Instr.entry,a8,Sem.run_bind,cA g1 (by simp),Result.andThen_ok,hback,cA k1 (by simp),bne_self_eq_false,ax,if_false,f2,Sem.run_pure]
    ·simp at hl
   ·simp at hl
 ·simp at hl
def wA{P:Program}{t:TypeId}{name:String}{f:FuncId}(h:jn P t name=some f):∃(i:TypeInfo) (m:Method) (d:TypeDesc),P.info? t=some i/\i.methods.find? (·.name==name)=some m/\m.path.isEmpty=true/\m.func=some (f,false)/\P.underlying t=some d/\(∀e,d≠.pointer e):=by
 unfold jn at h
 cases hi:P.info? t with
 | none=>simp[hi] at h
 | some i=>
  simp only[hi,ag] at h
  cases hm:i.methods.find? (·.name==name) with
  | none=>simp[hm] at h
  | some m=>
   simp only[hm,ag] at h;split at h
   ·rename_i g hp hf;split at h
    all_goals first
     | (rename_i hu;simp only[Option.some.injEq] at h;subst h;exact⟨i,m,_,rfl,hm,hp,hf,hu,by simp⟩)
     | simp at h
   ·simp at h
def A9{P:Program}{σ:Sg}{w:World}{ρ:Operand->Value}{X:Operand}{x r:AV}{o:Oper}(h:oR P x=some r)(hv:V σ x (ρ X))(ho:o.op=.nilCheck X):
 ∃z,(execOp ρ o).run P w=.ok (.value z) w/\V σ r z:=by
 unfold oR at h;split at h
 ·simp only[Option.some.injEq] at h;subst h;generalize hg:ρ X=v at hv
  cases hv with
  | ptr hp=>exact⟨_,by simp only[execOp,ho,hg,Sem.run_pure],.ptr hp⟩
 ·simp only[Option.some.injEq] at h;subst h;generalize hg:ρ X=v at hv;have hv':=hv
  cases hv with
  | fn hf h1 h2 h3 h4=>exact⟨_,by simp only[execOp,ho,hg,Sem.run_pure],hv'⟩
 ·rename_i name t a cap
  cases hm:jn P t name with
  | none=>simp[hm] at h
  | some f=>
   simp only[hm,a9,Option.some.injEq] at h;subst h;obtain⟨i,m,d,hi,hf,hp,hfu,hu,hd⟩:=wA hm;generalize hg:ρ X=v at hv;have hv':=hv
   cases hv with
   | @fn _ _ _ fs' cs' hfy h1 h2 h3 h4=>
    have hsz:fs'.size=1:=by simpa using h1.symm
    have h00:fs'[0]?=some (fs'[0]'(by omega)):=ay _;have hV0:=h2 0 _ _ rfl h00;generalize fs'[0]'(by omega)=v0 at hV0 h00
    cases hV0 with
    | @iface _ _ vv hva=>
     refine⟨_,?_,hv'⟩;simp only[execOp,ho,hg,h00,Sem.run_bind,run_program,Result.andThen_ok]
     have hna:(nilAhead (P.types.size+Made.depth) t vv name).run P w=.ok (some false) w:=by
      rw[show P.types.size+Made.depth=(P.types.size+99)+1 from rfl];generalize P.types.size+99=kk
      have hpath:m.path.toList=[]:=by
       have:=hp;simpa using this
      simp only[nilAhead,Sem.run_bind,de hi,Result.andThen_ok,hf,hpath,followBlind,Sem.run_pure,hfu,aN hu]
      cases d<;>first
       | rfl
       | exact t8 rfl (hd _)
     simp only[hna,Result.andThen_ok];rfl
 ·simp only[Option.some.injEq] at h;subst h;generalize hg:ρ X=v at hv;have hv':=hv
  cases hv with
  | ik hl=>exact⟨_,by simp only[execOp,ho,hg,Sem.run_pure],hv'⟩
  | slice=>exact⟨_,by simp only[execOp,ho,hg,Sem.run_pure],hv'⟩
 ·simp at h
def Uv(σ:Sg)(r:Option AV)(x:Next):Prop:=match r with
 | some a=>∃v,x=.value v/\V σ a v
 | none=>x=.skip
def xg(P:Program)(σ:Sg)(h h':H)(w:World)(r:Option AV)(s:Sem Next):Prop:=
 ∃σ' x w',s.run P w=.ok x w'/\Uv σ' r x/\HR σ' h' w'/\Ext σ σ' h h' w w'
def xg.pure{P:Program}{σ:Sg}{h:H}{w:World}(hr:HR σ h w){a:AV}{s:Sem Value}(hs:∃z,s.run P w=.ok z w/\V σ a z):xg P σ h h w (some a) (do Pure.pure (Next.value (<-s))):=by
 obtain⟨z,h1,h2⟩:=hs;exact⟨σ,.value z,w,by simp only[Sem.run_bind,h1,Result.andThen_ok,Sem.run_pure],⟨z,rfl,h2⟩,hr,.refl _ _ _⟩
def xg.yield{P:Program}{σ:Sg}{h h':H}{w:World}{a:AV}{s:Sem Value}(hs:Yields P σ h h' w a s):xg P σ h h' w (some a) (do Pure.pure (Next.value (<-s))):=by
 obtain⟨σ',z,w',h1,h2,h3,h4⟩:=hs;exact⟨σ',.value z,w',by simp only[Sem.run_bind,h1,Result.andThen_ok,Sem.run_pure],⟨z,rfl,h2⟩,h3,h4⟩
def xg.unit{P:Program}{σ:Sg}{h h':H}{w:World}{s:Sem Unit}(hs:∃w',s.run P w=.ok () w'/\HR σ h' w'/\Ext σ σ h h' w w'):xg P σ h h' w none (do s;Pure.pure Next.skip):=by
 obtain⟨w',h1,h2,h3⟩:=hs;exact⟨σ,.skip,w',by simp only[Sem.run_bind,h1,Result.andThen_ok,Sem.run_pure],rfl,h2,h3⟩
def L5{α β:Type}{r:Option α}{f:α->β}{outs:List β}(h:r.map (λx=>[f x])=some outs):∃a,r=some a/\outs=[f a]:=by
 cases r with
 | none=>simp at h
 | some a=>simp at h;exact⟨a,rfl,h.symm⟩
def mC{α β:Type}{r:Option α}{f:α->Option β}{y:β}(h:r.bind f=some y):∃a,r=some a/\f a=some y:=by
 cases r with
 | none=>simp at h
 | some a=>exact⟨a,rfl,h⟩
def aq{α β:Type}{r:Option α}{f:α->β}{y:β}(h:r.map f=some y):∃a,r=some a/\f a=y:=by
 cases r with
 | none=>simp at h
 | some a=>simp at h;exact⟨a,rfl,h⟩
def H9{P:Program}{σ:Sg}{h:H}{w:World}{t:Tr AV}{ρ:Operand->Value}(hρ:∀x a,ev t x=some a->V σ a (ρ x))(hr:HR σ h w){o:Oper}{id:Nat}{a:AV}{ob:AO}(hl:o6 P t o.op id=some (a,ob))
 (hid:σ id=none) (hlt:id<h.next) (hlow:h.low<=id) (hf:∀j cs,h.aR.get j≠some (.cells cs id)):
 ∃σ' v w',(execOp ρ o).run P w=.ok (.value v) w'/\V σ' a v/\HR σ' (h.lay id ob) w'/\Ext σ σ' { h with next:=id } (h.lay id ob) w w'/\(∃q,w.heap.size<=q.b/\σ'=up σ id q):=by
 have row:∀(aS:List AV) (c:Array Value) (e:TypeId) (v:Value),ob=.cells aS id->VL σ aS c.toList->(execOp ρ o).run P w=.ok (.value v) { w with heap:=w.heap.push (.cells c e (0,0)) }->
  (∀σ':Sg,σ' id=some ⟨w.heap.size,0,c.size⟩->V σ' a v)->∃σ' v w',(execOp ρ o).run P w=.ok (.value v) w'/\V σ' a v/\HR σ' (h.lay id ob) w'/\Ext σ σ' { h with next:=id } (h.lay id ob) w w'/\(∃q,w.heap.size<=q.b/\σ'=up σ id q):=by
  intro aS c e v e1 hvl hrun hV;subst e1
  obtain⟨k1,k2⟩:=hr.lay (r:=c.size) (o:=.cells aS id) (ob:=.cells c e (0,0)) (w':={ w with heap:=w.heap.push (.cells c e (0,0)) }) hid hlt hlow hf (λcs f hh=>by cases hh;rfl)
   (H5 (hvl.mono (ng hid)) (a2 (a1 _))) rfl rfl rfl rfl
  exact⟨_,v,_,hrun,hV _ (ej _ _ _),k1,k2,_,a1 _,rfl⟩
 have mp:ob=.map [] 0->a=.map (some id)->(execOp ρ o).run P w=.ok (.value (.map (some w.heap.size))) { w with heap:=w.heap.push (.map #[] 0) }->
  ∃σ' v w',(execOp ρ o).run P w=.ok (.value v) w'/\V σ' a v/\HR σ' (h.lay id ob) w'/\Ext σ σ' { h with next:=id } (h.lay id ob) w w'/\(∃q,w.heap.size<=q.b/\σ'=up σ id q):=by
  intro e1 e2 hrun;subst e1;subst e2
  obtain⟨k1,k2⟩:=hr.lay (r:=0) (o:=.map [] 0) (ob:=.map #[] 0) (w':={ w with heap:=w.heap.push (.map #[] 0) }) hid hlt hlow hf (λcs f hh=>by cases hh)
   ⟨#[],rfl,rfl,λi e m he _=>by simp at he⟩ rfl rfl rfl rfl
  exact⟨_,_,_,hrun,.map (p:=⟨w.heap.size,0,0⟩) (ej _ _ _),k1,k2,_,a1 _,rfl⟩
 unfold o6 at hl;split at hl
 ·rename_i e ho;obtain⟨z,hz,he⟩:=aq hl;simp only[Prod.mk.injEq] at he;obtain⟨rfl,rfl⟩:=he;obtain⟨zv,hzr,hzV,_⟩:=iI (w:=w) (σ:=σ) hz;refine row _ zv.cells e _ rfl hzV.cells ?_ (λσ' hs=>.ptr (p:=⟨w.heap.size,0,zv.cells.size⟩) hs);simp only[execOp,ho,Instr.alloc,Sem.run_bind,hzr,Result.andThen_ok,newVar,newRow,run_newObj,Sem.run_pure]
 ·rename_i e x ho;obtain⟨y,hy,he⟩:=aq hl;simp only[Prod.mk.injEq] at he;obtain⟨rfl,rfl⟩:=he;have hV:=hρ _ _ hy;refine row _ (ρ x).cells e _ rfl hV.cells ?_ (λσ' hs=>.ptr (p:=⟨w.heap.size,0,(ρ x).cells.size⟩) hs);simp only[execOp,ho,Instr.box,Sem.run_bind,Result.andThen_ok,newVar,newRow,run_newObj,Sem.run_pure]
 ·rename_i tt n ps ho;obtain⟨qs,hq,hl⟩:=mC hl;obtain⟨⟨s,cs⟩,hb,he⟩:=aq hl;simp only[Prod.mk.injEq] at he;obtain⟨rfl,rfl⟩:=he;have hpr:=vI hρ ps.toList qs hq
  have hpr':PL σ qs (ps.map λ(i,x)=>(i,ρ x)).toList:=by simpa using hpr
  obtain⟨c,e,g1,g2,g3⟩:=xk (w:=w) hb hpr';refine row _ c e _ rfl g2 ?_ (λσ' hs=>.slice (p:=⟨w.heap.size,0,c.size⟩) hs (a1 _) (by have:=g2.1;simp at this;simp only;omega) (λx hx=>by simpa using hx.symm) (.inl rfl));simp only[execOp,ho,Sem.run_bind,g1,Result.andThen_ok,Sem.run_pure]
 ·rename_i tt r ho;split at hl
  ·simp only[Option.some.injEq,Prod.mk.injEq] at hl;obtain⟨rfl,rfl⟩:=hl;refine mp rfl rfl ?_;simp only[execOp,ho,Option.map_none,Instr.makeMap,Sem.run_bind,Sem.run_pure,Result.andThen_ok,run_newObj]
  ·rename_i x;split at hl
   ·rename_i k n q hx hm;simp only[Option.some.injEq,Prod.mk.injEq] at hl;obtain⟨rfl,rfl⟩:=hl;obtain⟨kt,et⟩:=q;refine mp rfl rfl ?_;have hV:=hρ _ _ hx;generalize hg:ρ x=v at hV;cases hV;simp only[execOp,ho,a9,hg,Instr.makeMap,Sem.run_bind,aN (lu hm),asInt,asIntOf,Sem.run_pure,Result.andThen_ok,run_newObj]
   ·simp at hl
 ·rename_i tt l c ho;obtain⟨l',hl',hl⟩:=mC hl;obtain⟨c',hc',hl⟩:=mC hl;obtain⟨⟨n,s,m,cs⟩,hb,he⟩:=aq hl;simp only[Prod.mk.injEq] at he;obtain⟨rfl,rfl⟩:=he;obtain⟨arr,e,g1,g2,g3,g4⟩:=y8 (w:=w) hb (hρ _ _ hl') (hρ _ _ hc');refine row _ arr e _ rfl g2 ?_ (λσ' hs=>.slice (p:=⟨w.heap.size,0,arr.size⟩) hs g3 (by have:=g2.1;simp at this;simp only;omega) (λx hx=>by simpa using hx.symm) (.inl rfl));simp only[execOp,ho,Sem.run_bind,g1,Result.andThen_ok,Sem.run_pure]
 ·simp at hl
def Db{P:Program}{σ:Sg}{h h':H}{w:World}(hr:HR σ h w){b:Builtin}{ats:Array TypeId}{T:TypeId}{cn:Array Bool}{aS:List AV}{args:Array Value}{r:AV}(hl:mD P h b ats.toList aS=some (r,h'))
 (hv:VL σ aS args.toList):xg P σ h h' w (some r) (builtin b ats T cn args):=by
 have at0:∀{t:TypeId} {l:List TypeId},ats.toList=t::l->ats[0]?=some t:=λe=>by rw[<-aa,e];rfl
 have at1:∀{t s:TypeId} {l:List TypeId},ats.toList=t::s::l->ats[1]?=some s:=λe=>by rw[<-aa,e];rfl
 have ar0:∀{v:Value} {l:List Value},args.toList=v::l->args[0]?=some v:=λe=>by rw[<-aa,e];rfl
 have ar1:∀{v u:Value} {l:List Value},args.toList=v::u::l->args[1]?=some u:=λe=>by rw[<-aa,e];rfl
 unfold mD at hl;split at hl
 ·rename_i st xt _ x y hats;obtain⟨v,l,e1,hV,hl1⟩:=hv.dF;obtain⟨u,l2,e2,hU,_⟩:=hl1.dF;subst e2;exact .yield (E2 hr hl (at0 hats) (at1 hats) (ar0 e1) (ar1 e1) hV hU)
 ·rename_i t _ x _ hats;obtain⟨v,l,e1,hV,_⟩:=hv.dF;obtain⟨q,hq,he⟩:=aq hl;simp only[Prod.mk.injEq] at he;obtain⟨rfl,rfl⟩:=he;exact .pure hr (N7 hr hq (at0 hats) (ar0 e1) hV)
 ·rename_i t _ o n es c hats;obtain⟨v,l,e1,hV,_⟩:=hv.dF;split at hl
  ·rename_i e hu;simp only[Option.some.injEq,Prod.mk.injEq] at hl;obtain⟨rfl,rfl⟩:=hl;have a0:=ar0 e1;refine .pure hr ⟨goInt c,?_,.int _ _⟩
   cases hV with
   | ik h0=>simp only[Builtin.cap_,at0 hats,a0,Sem.run_bind,aN hu,Result.andThen_ok,Sem.run_pure]
   | slice hp hl hroom hcap haddr=>
    have:=hcap c rfl;subst this;simp only[Builtin.cap_,at0 hats,a0,Sem.run_bind,aN hu,Result.andThen_ok,Sem.run_pure]
  ·simp at hl
 ·rename_i dt _ x y _ hats;obtain⟨v,l,e1,hV,hl1⟩:=hv.dF;obtain⟨u,l2,e2,hU,_⟩:=hl1.dF;subst e2;exact .yield (Lz hr hl (at0 hats) (ar0 e1) (ar1 e1) hV hU)
 ·rename_i x l;obtain⟨v,us,e1,hV,hus⟩:=hv.dF;obtain⟨q,hq,he⟩:=aq hl;simp only[Prod.mk.injEq] at he;obtain⟨rfl,rfl⟩:=he;obtain⟨z,hz,hZ⟩:=qq (P:=P) (w:=w) false l x q v us hq hV hus;exact .pure hr ⟨z,by simp only[Builtin.min_,e1];exact hz,hZ⟩
 ·rename_i x l;obtain⟨v,us,e1,hV,hus⟩:=hv.dF;obtain⟨q,hq,he⟩:=aq hl;simp only[Prod.mk.injEq] at he;obtain⟨rfl,rfl⟩:=he;obtain⟨z,hz,hZ⟩:=qq (P:=P) (w:=w) true l x q v us hq hV hus;exact .pure hr ⟨z,by simp only[Builtin.max_,e1];exact hz,hZ⟩
 ·rename_i t _ x k _ hats;obtain⟨v,l,e1,hV,hl1⟩:=hv.dF;obtain⟨u,l2,e2,hU,_⟩:=hl1.dF;subst e2;exact .yield (FA hr hl (at0 hats) (ar0 e1) (ar1 e1) hV hU)
 ·rename_i t _ x _ hats;obtain⟨v,l,e1,hV,_⟩:=hv.dF;exact .yield (Ih hr hl (at0 hats) (ar0 e1) hV)
 ·simp at hl
def Qt{P:Program}{σ:Sg}{h:H}{w:World}{t:Tr AV}{ρ:Operand->Value}(hρ:∀x a,ev t x=some a->V σ a (ρ x))(hr:HR σ h w){o:Oper}{outs:List (Option AV×H)}(hl:eg P t h o.op=some outs):
 ∃r h',(r,h')∈outs/\xg P σ h h' w r (execOp ρ o):=by
 have pv:∀(q:Option AV) (s:Sem Value),q.map (λx=>[(some x,h)])=some outs->(∀a,q=some a->∃z,s.run P w=.ok z w/\V σ a z)->execOp ρ o=(do Pure.pure (Next.value (<-s)))->∃r h',(r,h')∈outs/\xg P σ h h' w r (execOp ρ o):=by
  intro q s hq hs he;obtain⟨a,ha,rfl⟩:=L5 hq;exact⟨_,_,mem_singleton.2 rfl,he▸.pure hr (hs a ha)⟩
 have pvh:∀(q:Option (AV×H)) (s:Sem Value),q.map (λx=>[(some x.1,x.2)])=some outs->(∀a h',q=some (a,h')->Yields P σ h h' w a s)->execOp ρ o=(do Pure.pure (Next.value (<-s)))->∃r h',(r,h')∈outs/\xg P σ h h' w r (execOp ρ o):=by
  intro q s hq hs he;obtain⟨⟨a,h'⟩,ha,rfl⟩:=L5 hq;exact⟨_,_,mem_singleton.2 rfl,he▸.yield (hs a h' ha)⟩
 have pu:∀(q:Option H) (s:Sem Unit),q.map (λx=>[((none:Option AV),x)])=some outs->(∀h',q=some h'->∃w',s.run P w=.ok () w'/\HR σ h' w'/\Ext σ σ h h' w w')->execOp ρ o=(do s;Pure.pure Next.skip)->∃r h',(r,h')∈outs/\xg P σ h h' w r (execOp ρ o):=by
  intro q s hq hs he;obtain⟨h',ha,rfl⟩:=L5 hq;exact⟨_,_,mem_singleton.2 rfl,he▸.unit (hs h' ha)⟩
 have al:∀q:Option (AV×H),q.map (λx=>[(some x.1,x.2)])=some outs->q=(o6 P t o.op h.next).map (λ(v,ob)=>(v,({ h.lay h.next ob with next:=h.next+1 }:H)))->∃r h',(r,h')∈outs/\xg P σ h h' w r (execOp ρ o):=by
  intro q hq he;obtain⟨⟨a,h'⟩,ha,rfl⟩:=L5 hq;rw[he] at ha;obtain⟨⟨v,ob⟩,hv,hx⟩:=aq ha;simp only[Prod.mk.injEq] at hx;obtain⟨rfl,rfl⟩:=hx;obtain⟨σ',z,w',k1,k2,k3,k4,_⟩:=H9 hρ (hr.more (h.next+1) (by omega)) (id:=h.next) hv (hr.fresh _ (a1 _)) (by simp) hr.y7 (λj cs hj=>by have:=(hr.cg j cs _ hj).1;omega);rw[<-FZ] at k3 k4;exact⟨_,_,mem_singleton.2 rfl,σ',.value z,w',k1,⟨z,rfl,k2⟩,k3,k4.more (by omega)⟩
 have lF:∀{α β:Type} {q:Option α} {f:α->Option β} {y:β},q.bind f=some y->∃a,q=some a/\f a=some y:=λh=>mC h
 cases ho:o.op with
 | move x=>
  rw[ho] at hl;simp only[eg] at hl;exact pv _ (Pure.pure (ρ x)) hl (λa ha=>⟨_,rfl,hρ _ _ ha⟩) (by simp only[execOp,ho];rfl)
 | assign x=>
  rw[ho] at hl;simp only[eg] at hl;exact pv _ (Pure.pure (ρ x)) hl (λa ha=>⟨_,rfl,hρ _ _ ha⟩) (by simp only[execOp,ho];rfl)
 | pick c a b=>
  rw[ho] at hl;simp only[eg] at hl;obtain⟨a',ha,hl⟩:=lF hl;obtain⟨b',hb,hl⟩:=lF hl;split at hl
  ·rename_i hc;have hcV:=hρ _ _ hc;generalize hg:ρ c=v at hcV;cases hcV;exact pv _ (do Pure.pure (if <-asBool (ρ c) then ρ a else ρ b)) hl (λx hx=>⟨ρ a,by simp[hg,asBool],by simp only[Option.some.injEq] at hx;subst hx;exact hρ _ _ ha⟩) (by simp only[execOp,ho,bind_assoc,pure_bind])
  ·rename_i hc;have hcV:=hρ _ _ hc;generalize hg:ρ c=v at hcV;cases hcV;exact pv _ (do Pure.pure (if <-asBool (ρ c) then ρ a else ρ b)) hl (λx hx=>⟨ρ b,by simp[hg,asBool],by simp only[Option.some.injEq] at hx;subst hx;exact hρ _ _ hb⟩) (by simp only[execOp,ho,bind_assoc,pure_bind])
  ·simp at hl
 | alloc e=>rw[ho] at hl;simp only[eg] at hl;exact al _ hl (by rw[ho])
 | box e x=>rw[ho] at hl;simp only[eg] at hl;exact al _ hl (by rw[ho])
 | buildSlice tt n ps=>rw[ho] at hl;simp only[eg] at hl;exact al _ hl (by rw[ho])
 | makeMap tt r=>rw[ho] at hl;simp only[eg] at hl;exact al _ hl (by rw[ho])
 | makeSlice tt l c=>rw[ho] at hl;simp only[eg] at hl;exact al _ hl (by rw[ho])
 | build tt ps=>
  rw[ho] at hl;simp only[eg] at hl;refine pv _ (Instr.build tt (ps.map λ(i,x)=>(i,ρ x))) hl (λa ha=>?_) (by simp only[execOp,ho]);obtain⟨qs,hq,hb⟩:=lF ha;exact Ie hb (by simpa using vI hρ ps.toList qs hq)
 | load tt a=>
  rw[ho] at hl;simp only[eg] at hl;split at hl
  ·rename_i id off ha;have hV:=hρ _ _ ha;generalize hg:ρ a=v at hV
   cases hV with
   | ptr hp=>
    refine pv _ (Instr.loadAt tt (ρ a)) hl (λr hr'=>?_) (by simp only[execOp,ho]);obtain⟨z,h1,h2⟩:=hr.F6 (P:=P) hr' hp;exact⟨z,by simp only[Instr.loadAt,hg,Instr.sureAddr,Sem.run_bind,Sem.run_pure,Result.andThen_ok];exact h1,h2⟩
  ·simp at hl
 | store tt a x=>
  rw[ho] at hl;simp only[eg] at hl;split at hl
  ·rename_i id off y ha hx;have hV:=hρ _ _ ha;generalize hg:ρ a=v at hV
   cases hV with
   | ptr hp=>
    refine pu _ (Instr.storeAt tt (ρ a) (ρ x)) hl (λh' hh=>?_) (by simp only[execOp,ho]);obtain⟨w',h1,h2,h3⟩:=hr.D6 (P:=P) hh hp (hρ _ _ hx);exact⟨w',by simp only[Instr.storeAt,hg,Instr.sureAddr,Sem.run_bind,Sem.run_pure,Result.andThen_ok];exact h1,h2,h3⟩
  ·simp at hl
 | nilCheck x=>
  rw[ho] at hl;simp only[eg] at hl;obtain⟨a,ha,rfl⟩:=L5 hl;obtain⟨y,hy,hn⟩:=lF ha;obtain⟨z,h1,h2⟩:=A9 (P:=P) (w:=w) (ρ:=ρ) (o:=o) hn (hρ _ _ hy) ho;exact⟨_,_,mem_singleton.2 rfl,σ,_,w,h1,⟨z,rfl,h2⟩,hr,.refl _ _ _⟩
 | binOp op xt x y yt=>
  rw[ho] at hl;simp only[eg] at hl;refine pv _ (do eqGuard op xt x y (ρ x) (ρ y);binOp op xt (ρ x) (ρ y)) hl (λa ha=>?_) (by simp only[execOp,ho]);obtain⟨x',hx,ha⟩:=lF ha;obtain⟨y',hy,ha⟩:=lF ha;obtain⟨z,h1,h2⟩:=Nn (P:=P) (w:=w) ha (hρ _ _ hx) (hρ _ _ hy);exact⟨z,by simp only[Sem.run_bind,FE ha (hρ _ _ hx) (hρ _ _ hy),Result.andThen_ok];exact h1,h2⟩
 | unOp op tt x=>
  rw[ho] at hl;simp only[eg] at hl;refine pv _ (Op.unary op (ρ x)) hl (λa ha=>?_) (by simp only[execOp,ho]);obtain⟨x',hx,ha⟩:=lF ha;exact QQ ha (hρ _ _ hx)
 | convert s d x=>
  rw[ho] at hl;simp only[eg] at hl;refine pv _ (convert s d (ρ x)) hl (λa ha=>?_) (by simp only[execOp,ho]);obtain⟨x',hx,ha⟩:=lF ha;exact Ly ha (hρ _ _ hx)
 | makeInterface xt x=>
  rw[ho] at hl;simp only[eg] at hl;split at hl
  ·simp at hl
  ·rename_i d hni hu;refine pv _ (Instr.makeInterface xt (ρ x)) hl (λa ha=>?_) (by simp only[execOp,ho]);obtain⟨x',hx,rfl⟩:=aq ha;refine⟨.iface xt (ρ x),?_,.iface (hρ _ _ hx)⟩;simp only[Instr.makeInterface,Sem.run_bind,aN hu,Result.andThen_ok]
   cases d<;>first
    | rfl
    | exact t8 rfl (hni _)
  ·simp at hl
 | makeFunc f first cap=>
  rw[ho] at hl;simp only[eg] at hl
  have hny:∀l,f≠.yield l:=by intro l e;subst e;simp at hl
  have hl2:((xm t first.toList).bind λa=>(xm t cap.toList).map λb=>AV.fn f a b).map (λx=>[(some x,h)])=some outs:=by
   cases f<;>first
    | exact hl
    | simp at hl
  refine pv _ (Instr.makeFunc f (first.map ρ) (cap.map ρ)) hl2 (λa ha=>?_) (by simp only[execOp,ho]);obtain⟨aS,h1,ha⟩:=lF ha;obtain⟨bs,h2,rfl⟩:=aq ha;have r1:=pk hρ _ _ h1;have r2:=pk hρ _ _ h2;refine⟨.func f (first.map ρ) (cap.map ρ),rfl,.fn hny (by have:=r1.1;simpa using this) (λi a v x y=>r1.2 i a v x ?_) (by have:=r2.1;simpa using this) (λi a v x y=>r2.2 i a v x ?_)⟩
  ·rw[<-aa,ad] at y;exact y
  ·rw[<-aa,ad] at y;exact y
 | slice tt x lo hi mx=>
  rw[ho] at hl;simp only[eg] at hl;refine pv _ (Instr.sliceAt tt (ρ x) (lo.map ρ) (hi.map ρ) (mx.map ρ)) hl (λa ha=>?_) (by simp only[execOp,ho]);obtain⟨x',hx,ha⟩:=lF ha;obtain⟨lo',h1,ha⟩:=lF ha;obtain⟨hi',h2,ha⟩:=lF ha;obtain⟨mx',h3,ha⟩:=lF ha
  have vo:∀(y:Option Operand) (y':Option AV),NJ t y=some y'->VO σ y' (y.map ρ):=by
   intro y y' hy
   cases y with
   | none=>simp[NJ] at hy;subst hy;exact trivial
   | some y=>
    simp only[NJ] at hy;obtain⟨z,hz,rfl⟩:=aq hy;exact hρ _ _ hz
  exact I3 hr ha (hρ _ _ hx) (vo _ _ h1) (vo _ _ h2) (vo _ _ h3)
 | fieldAddr s x f=>
  rw[ho] at hl;simp only[eg] at hl;refine pv _ (Instr.fieldAt s (ρ x) f) hl (λa ha=>?_) (by simp only[execOp,ho]);obtain⟨x',hx,ha⟩:=lF ha;exact yE ha (hρ _ _ hx)
 | field s x f=>
  rw[ho] at hl;simp only[eg] at hl;refine pv _ (Instr.field s (ρ x) f) hl (λa ha=>?_) (by simp only[execOp,ho]);obtain⟨x',hx,ha⟩:=lF ha;exact Iq ha (hρ _ _ hx)
 | indexAddr tt x i=>
  rw[ho] at hl;simp only[eg] at hl;refine pv _ (Instr.indexAt tt (ρ x) (ρ i)) hl (λa ha=>?_) (by simp only[execOp,ho]);obtain⟨x',hx,ha⟩:=lF ha;obtain⟨i',hi,ha⟩:=lF ha;exact yP ha (hρ _ _ hx) (hρ _ _ hi)
 | index tt x i=>
  rw[ho] at hl;simp only[eg] at hl;refine pv _ (Instr.index tt (ρ x) (ρ i)) hl (λa ha=>?_) (by simp only[execOp,ho]);obtain⟨x',hx,ha⟩:=lF ha;obtain⟨i',hi,ha⟩:=lF ha;exact Ix ha (hρ _ _ hx) (hρ _ _ hi)
 | lookup tt x k ok=>
  rw[ho] at hl;simp only[eg] at hl;refine pv _ (Instr.lookup tt (ρ x) (ρ k) ok) hl (λa ha=>?_) (by simp only[execOp,ho]);obtain⟨x',hx,ha⟩:=lF ha;obtain⟨k',hk,ha⟩:=lF ha;exact F7 hr ha (hρ _ _ hx) (hρ _ _ hk)
 | mapUpdate tt m k x=>
  rw[ho] at hl;simp only[eg] at hl;refine pu _ (Instr.mapUpdate tt (ρ m) (ρ k) (ρ x)) hl (λh' hh=>?_) (by simp only[execOp,ho]);obtain⟨m',hm,hh⟩:=lF hh;obtain⟨k',hk,hh⟩:=lF hh;obtain⟨x',hx,hh⟩:=lF hh;exact qB hr hh (hρ _ _ hm) (hρ _ _ hk) (hρ _ _ hx)
 | insert tt m k x=>
  rw[ho] at hl;simp only[eg] at hl;refine pu _ (Instr.mapUpdate tt (ρ m) (ρ k) (ρ x)) hl (λh' hh=>?_) (by simp only[execOp,ho]);obtain⟨m',hm,hh⟩:=lF hh;obtain⟨k',hk,hh⟩:=lF hh;obtain⟨x',hx,hh⟩:=lF hh;exact qB hr hh (hρ _ _ hm) (hρ _ _ hk) (hρ _ _ hx)
 | mapEntry tt m k=>
  rw[ho] at hl;simp only[eg] at hl;refine pvh _ (Instr.mapEntry tt (ρ m) (ρ k)) hl (λa h' hh=>?_) (by simp only[execOp,ho]);obtain⟨m',hm,hh⟩:=lF hh;obtain⟨k',hk,hh⟩:=lF hh;obtain⟨z,w',h1,h2,h3,h4⟩:=A8 (P:=P) hr hh (hρ _ _ hm) (hρ _ _ hk);exact⟨σ,z,w',h1,h2,h3,h4⟩
 | entryStore tt m s x=>
  rw[ho] at hl;simp only[eg] at hl;refine pu _ (Instr.entryStore tt (ρ m) (ρ s) (ρ x)) hl (λh' hh=>?_) (by simp only[execOp,ho]);obtain⟨m',hm,hh⟩:=lF hh;obtain⟨s',hs,hh⟩:=lF hh;obtain⟨x',hx,hh⟩:=lF hh;exact xl hr hh (hρ _ _ hm) (hρ _ _ hs) (hρ _ _ hx)
 | range tt x=>
  rw[ho] at hl;simp only[eg] at hl;refine pvh _ (Instr.range tt (ρ x)) hl (λa h' hh=>?_) (by simp only[execOp,ho]);obtain⟨x',hx,hh⟩:=lF hh;exact I0 hr hh (hρ _ _ hx)
 | next it isS=>
  rw[ho] at hl;simp only[eg] at hl;split at hl
  ·rename_i x hx;obtain⟨l,h1,rfl⟩:=aq hl;obtain⟨r,h',h2,h3⟩:=Mg (P:=P) (T:=o.type) hr h1 (hρ _ _ hx);refine⟨some r,h',mem_map.2 ⟨(r,h'),h2,rfl⟩,?_⟩
   have:execOp ρ o=(do Pure.pure (Next.value (<-Instr.next (ρ it) isS o.type))):=by simp only[execOp,ho]
   rw[this];exact .yield h3
  ·simp at hl
 | entry it=>
  rw[ho] at hl;simp only[eg] at hl;refine pv _ (Instr.entry (ρ it)) hl (λa ha=>?_) (by simp only[execOp,ho]);obtain⟨x',hx,ha⟩:=lF ha;exact Im hr ha (hρ _ _ hx)
 | extract x i=>
  rw[ho] at hl;simp only[eg] at hl;split at hl
  ·rename_i vs hx;refine pv _ (Instr.extract (ρ x) i) hl (λa ha=>?_) (by simp only[execOp,ho]);obtain⟨us,hg,hus⟩:=(hρ _ _ hx).IS;obtain⟨z,h1,h2⟩:=hus.get ha;refine⟨z,?_,h2⟩
   have:us[i]?=some z:=by rw[<-aa];exact h1
   simp only[hg,Instr.extract,this,Sem.run_pure]
  ·simp at hl
 | typeAssert x xt aS ok=>
  rw[ho] at hl;simp only[eg] at hl;split at hl
  ·simp at hl
  ·rename_i d hni hu;split at hl
   ·rename_i dt y hx;obtain⟨hd,hl2⟩:=aL hl;clear hl;have:=cU hd;subst this;refine pv _ (Instr.typeAssert (ρ x) xt dt ok) hl2 (λa ha=>?_) (by simp only[execOp,ho]);simp only[Option.some.injEq] at ha;subst ha;have hV:=hρ _ _ hx;generalize hg:ρ x=v at hV
    cases hV with
    | @iface _ _ z hz=>
     refine⟨if ok then .tuple #[z,.bool true] else z,?_,?_⟩
     ·simp only[Instr.typeAssert,Sem.run_bind,aN hu,Result.andThen_ok]
      cases d<;>first
       | (simp;done)
       | exact t8 rfl (hni _)
     ·cases ok
      ·exact hz
      ·exact .gg (.cons hz (.cons (.bool _) .nil))
   ·simp at hl
  ·simp at hl
 | call c=>
  rw[ho] at hl;obtain⟨callee,args,argTypes⟩:=c
  cases callee with
  | builtin b=>
   simp only[eg] at hl;obtain⟨⟨a,h'⟩,ha,rfl⟩:=L5 hl;obtain⟨xs,hx,hb⟩:=lF ha;refine⟨_,_,mem_singleton.2 rfl,?_⟩;have:=pk hρ args.toList xs hx;have hd:=Db (T:=o.type) (cn:=args.map λ| .const _=>true | _=>false) (args:=args.map ρ) hr hb (by simpa using this);obtain⟨σ',x,w',h1,h2,h3,h4⟩:=hd;refine⟨σ',x,w',?_,h2,h3,h4⟩;simp only[execOp,ho,resolve,Sem.run_bind,Sem.run_pure,Result.andThen_ok,invoke];exact h1
  | value f=>simp[eg] at hl
  | invoke r m=>simp[eg] at hl
 | ready g=>rw[ho] at hl;simp[eg] at hl
 | waits g=>rw[ho] at hl;simp[eg] at hl
 | sliceToArrayPointer d x=>rw[ho] at hl;simp[eg] at hl
 | makeChan tt s=>rw[ho] at hl;simp[eg] at hl
 | go c=>rw[ho] at hl;simp[eg] at hl
 | defer c=>rw[ho] at hl;simp[eg] at hl
 | panic x=>rw[ho] at hl;simp[eg] at hl
 | send ch x=>rw[ho] at hl;simp[eg] at hl
 | recv ct ch ok=>rw[ho] at hl;simp[eg] at hl
 | select cs b=>rw[ho] at hl;simp[eg] at hl
def R9(σ:Sg)(d:iV)(d':Deferred):Prop:=match d.fn with
 | none=>∃q,σ d.qe=some q/\d'={ target:=.collected q.b,args:=#[] }
 | some f=>∃g cap',f=.func g/\d'.target=.fn (.func g) cap'/\VL σ d.args d'.args.toList/\VL σ d.cap cap'.toList
def QV(σ:Sg):List iV->List Deferred->Prop
 | [],[]=>True
 | d::ds,d'::ds'=>R9 σ d d'/\QV σ ds ds'
 | _,_=>False
def R9.mono{σ σ':Sg}(hle:∀id p,σ id=some p->σ' id=some p){d:iV}{d':Deferred}(h:R9 σ d d'):R9 σ' d d':=by
 unfold R9 at *
 revert h
 cases d.fn with
 | none=>intro h;obtain⟨q,h1,h2⟩:=h;exact⟨q,hle _ _ h1,h2⟩
 | some f=>intro h;obtain⟨g,cap',h1,h2,h3,h4⟩:=h;exact⟨g,cap',h1,h2,h3.mono hle,h4.mono hle⟩
def QV.mono{σ σ':Sg}(hle:∀id p,σ id=some p->σ' id=some p):∀{ds:List iV} {ds':List Deferred},QV σ ds ds'->QV σ' ds ds'
 | [],[],_=>trivial
 | _::_,_::_,h=>⟨h.1.mono hle,QV.mono hle h.2⟩
structure SR (σ:Sg) (st:St) (a:Act) (w:World):Prop where
 t:TR σ st.t st.n a.tmps
 h:HR σ st.h w
 ds:QV σ st.ds a.defers
def TR.ev{σ:Sg}{t:Tr AV}{n:Nat}{a:Act}(h:TR σ t n a.tmps):∀x y,ev t x=some y->V σ y (a.eval x):=by
 intro x y hx
 cases x with
 | tmp i=>
  simp only[Ev.ev,Option.some.injEq] at hx;have:=h.2 i;simp only[Act.eval]
  cases hg:t.get i with
  | none=>rw[hg] at hx this;subst hx;exact this
  | some v=>rw[hg] at hx this;subst hx;exact this
 | const v=>exact Nc _ _ _ hx
 | func f=>
  simp only[Ev.ev,Option.some.injEq] at hx;subst hx;exact .fn (by simp) rfl (λi a v x _=>by simp at x) rfl (λi a v x _=>by simp at x)
 | global g=>simp[Ev.ev] at hx
def TR.put{σ:Sg}{t:Tr AV}{n:Nat}{a:Act}(h:TR σ t n a.tmps){d:Nat}{x:AV}{v:Value}(hd:d<n)(hv:V σ x v):TR σ (t.put d (some x)) n (a.put (some d) v).tmps:=by
 refine⟨by simp[Act.put,h.1],?_⟩;intro i;rw[dH];simp only[Act.put,aj,Array.getElem?_setIfInBounds];by_cases hi:i=d
 ·subst hi;rw[ul rfl,ul rfl,ul (by rw[h.1];exact hd)];exact hv
 ·rw[un hi,un (λe=>hi e.symm)];have:=h.2 i;rw[aj] at this;exact this
def put_defers(a:Act)(d:Option Tmp)(v:Value):(a.put d v).defers=a.defers:=by cases d<;>rfl
def C3(P:Program)(r:Result Next)(R:Value->World->Prop):Prop:=match r with
 | .ok (.value v) w'=>R v w'
 | .ok (.enter f args) w'=>Calls P f args w' (λe w''=>∃v,e=.returned v/\R v w'')
 | .ok (.round l f tmps a b) w'=>∀n,RoundIn Fence.wide n P l f tmps a b w' (λe w''=>∃v,e=.returned v/\R v w'')
 | _=>False
def Uh(σ:Sg)(h:H)(w:World)(outs:List (AV×H))(v:Value)(w':World):Prop:=∃a h',(a,h')∈outs/\∃σ',V σ' a v/\HR σ' h' w'/\Ext σ σ' h h' w w'
def A0{F:Fence}{n l:Nat}{P:Program}{f:FuncId}{args:Array Value}{w:World}{R:Ending->World->Prop}(h:CallsIn F n P f args w R):CallsIn (F.inRound l) n P f args w R:=h
def Bf{F:Fence}{n l k:Nat}{P:Program}{f:FuncId}{t:Array Value}{a b:Code}{w:World}{R:Ending->World->Prop}(h:RoundIn F n P k f t a b w R):RoundIn (F.inRound l) n P k f t a b w R:=h
def C2(σ:Sg)(ro:Option Nat)(F:Fence):Prop:=match ro with
 | none=>F=Fence.wide
 | some id=>∃p,σ id=some p/\F=Fence.wide.inRound p.b
def C2.mono{σ σ':Sg}(hle:∀id p,σ id=some p->σ' id=some p){ro:Option Nat}{F:Fence}(h:C2 σ ro F):C2 σ' ro F:=by
 cases ro with
 | none=>exact h
 | some id=>obtain⟨p,h1,h2⟩:=h;exact⟨p,hle _ _ h1,h2⟩
def C2.fn{σ:Sg}{ro:Option Nat}{F:Fence}(h:C2 σ ro F)(f:FuncId):F.fn f:=by
 cases ro with
 | none=>rw[show F=Fence.wide from h];trivial
 | some id=>obtain⟨p,_,rfl⟩:=h;trivial
def C2.depth{σ:Sg}{ro:Option Nat}{F:Fence}(h:C2 σ ro F):F.depth=none:=by
 cases ro with
 | none=>rw[show F=Fence.wide from h];rfl
 | some id=>obtain⟨p,_,rfl⟩:=h;rfl
def C2.calls{σ:Sg}{ro:Option Nat}{F:Fence}(h:C2 σ ro F){n:Nat}{P:Program}{f:FuncId}{args:Array Value}{w:World}{R:Ending->World->Prop}(hc:Calls P f args w R):CallsIn F n P f args w R:=by
 cases ro with
 | none=>rw[show F=Fence.wide from h];exact callsIn_wide.2 hc
 | some id=>obtain⟨p,_,rfl⟩:=h;exact A0 (callsIn_wide.2 hc)
def C2.rounds{σ:Sg}{ro:Option Nat}{F:Fence}(h:C2 σ ro F){n k:Nat}{P:Program}{f:FuncId}{t:Array Value}{a b:Code}{w:World}{R:Ending->World->Prop}(hc:RoundIn Fence.wide n P k f t a b w R):RoundIn F n P k f t a b w R:=by
 cases ro with
 | none=>rw[show F=Fence.wide from h];exact hc
 | some id=>obtain⟨p,_,rfl⟩:=h;exact Bf hc
def QR{P:Program}{σ:Sg}{ro:Option Nat}{F:Fence}(hF:C2 σ ro F){n:Nat}{o:Oper}{a:Act}{next:Act->World->Prop}{Q:Exit->Act->World->Prop}{r:Result Next}{R:Value->World->Prop}
 (hf:C3 P r R) (hn:∀v w',R v w'->next (a.put o.dst v) w'):o.uponIn F n P a next Q r:=by
 cases r with
 | halt h w=>exact hf.elim
 | ok x w'=>
  cases x with
  | value v=>exact hn v w' hf
  | enter f args=>
   have h2:=hF.calls (n:=n-1) hf;refine⟨λh=>by rw[hF.depth] at h;simp at h,h2.1,λcs hr=>?_⟩;obtain⟨e,w'',fr,⟨v,rfl,hR⟩,h3⟩:=h2.2 cs hr;exact⟨.returned v,w'',fr,hn v w'' hR,h3⟩
  | round l f tmps aS b=>
   refine⟨λh=>by rw[hF.depth] at h;simp at h,?_⟩
   exact(hF.rounds (hf (n-1))).mono λe w'' ⟨v,he,hR⟩=>by subst he;exact hn v w'' hR
  | _=>exact hf.elim
def Ig{P:Program}{t:Tr AV}{c:Call}{f:Fn}{xs cap:List AV}(h:pg P t c=some (f,xs,cap)){σ:Sg}{ρ:Operand->Value}(hρ:∀x a,ev t x=some a->V σ a (ρ x))(T:TypeId){w:World}:
 (∃g args',f=.func g/\VL σ (xs++cap) args'.toList/\((do let d <-resolve ρ c T;invoke d.target d.args):Sem Next).run P w=(callFunc g args').run P w)\/
 (∃id p args',f=.yield id/\σ id=some p/\VL σ (xs++cap) args'.toList/\((do let d <-resolve ρ c T;invoke d.target d.args):Sem Next).run P w=(Instr.yield p.b args').run P w)\/
 (∀g,f≠.func g)/\(∀id,f≠.yield id):=by
 unfold pg at h;obtain⟨callee,args,ats⟩:=c;simp only at h
 cases callee with
 | builtin b=>simp at h
 | value g=>
  simp only at h;split at h
  ·rename_i fn first cp hg
   obtain⟨ys,hy,he⟩:=aq h;simp only[Prod.mk.injEq] at he;obtain⟨rfl,rfl,rfl⟩:=he;have hys:=pk hρ _ _ hy;have hV:=hρ _ _ hg;generalize hgv:ρ g=v at hV
   cases hV with
   | @fn _ _ _ fs' cs' hfy h1 h2 h3 h4=>
    have hfs:VL σ first fs'.toList:=⟨by simpa using h1,λi a v x y=>h2 i a v x (by simpa using y)⟩
    have hcs:VL σ cp cs'.toList:=⟨by simpa using h3,λi a v x y=>h4 i a v x (by simpa using y)⟩
    cases fn with
    | func k=>
     refine .inl ⟨k,fs'++args.map ρ++cs',rfl,?_,?_⟩
     ·simp only[ac,ad];exact(hfs.append hys).append hcs
     ·simp only[resolve,hgv,Deferred.ofValue,Sem.run_bind,Sem.run_pure,Result.andThen_ok,invoke]
    | yield l=>exact t8 rfl (hfy l)
    | method nm=>exact .inr (.inr ⟨by simp,by simp⟩)
    | methodOf tt nm=>exact .inr (.inr ⟨by simp,by simp⟩)
    | via tt p q b=>exact .inr (.inr ⟨by simp,by simp⟩)
   | @yield id p hp=>
    refine .inr (.inl ⟨id,p,#[]++args.map ρ,rfl,hp,?_,?_⟩)
    ·simp only[ac,ad,a5,ba];exact hys
    ·simp only[resolve,hgv,Deferred.ofValue,Sem.run_bind,Sem.run_pure,Result.andThen_ok,invoke]
  ·simp at h
 | invoke r name=>
  simp only at h;split at h
  ·rename_i tt v hr;obtain⟨g,hg,h⟩:=mC h;obtain⟨ys,hy,he⟩:=aq h;simp only[Prod.mk.injEq] at he;obtain⟨rfl,rfl,rfl⟩:=he;have hys:=pk hρ _ _ hy;have hV:=hρ _ _ hr;generalize hgv:ρ r=rv at hV
   cases hV with
   | @iface _ _ vv hva=>
    obtain⟨i,m,d,hi,hf,hp,hfu,hu,hd⟩:=wA hg;refine .inl ⟨g,#[vv]++args.map ρ,rfl,?_,?_⟩
    ·simp only[ac,ad,ba];exact .cons hva hys
    ·have hpath:m.path.toList=[]:=by
      have:=hp;simpa using this
     have hm:(method (P.types.size+Made.depth) tt vv name).run P w=.ok (g,vv) w:=by
      rw[show P.types.size+Made.depth=(P.types.size+99)+1 from rfl];generalize P.types.size+99=kk;simp only[method,Sem.run_bind,de hi,Result.andThen_ok,hf,hpath,follow,Sem.run_pure,hfu,receiverAt,aN hu]
      cases d<;>first
       | rfl
       | exact t8 rfl (hd _)
     have he0:(#[Value.iface tt vv]++args.map ρ)[0]?=some (Value.iface tt vv):=by rw[Array.getElem?_append_left (by simp)];rfl
     have he1:(#[Value.iface tt vv]++args.map ρ).extract 1 (#[Value.iface tt vv]++args.map ρ).size=args.map ρ:=by
      apply Array.ext';simp;exact a2 (by simp)
     simp only[resolve,hgv,Sem.run_bind,Sem.run_pure,Result.andThen_ok,invoke,he0,he1,callMethod,run_program,hm]
  ·simp at h
end Go.Ev
