/- A part of the texts of this claim: every theorem says what it proves, with its conditions. -/
import Derived.Test.YtnaiockballhaaaGreatA6
import Derived.Laws.Build
set_option linter.unusedSimpArgs false
set_option linter.unusedVariables false
set_option linter.unusedSectionVars false
open Array (getElem?_toList length_toList toList_map)
open List (mem_singleton mem_map)
open Nat (blt le_refl ble zero_add)
open Option (bind_some map_some)
namespace Go.Ev
theorem yf(b:Nat):∀l:List Nat,seenIn b l=l.contains b
 | []=>rfl
 | x::l=>by
  simp only[seenIn,List.contains_cons,yf b l]
  congr 1
  cases h:Nat.beq x b
  ·have:=gM h;symm;simp;exact λe=>this e.symm
  ·have:=cP h;subst this;simp
theorem EL.filter{σ:Sg}{f:AV×AV×Nat->Bool}{g:MapEntry->Bool}(hfg:∀e m,ER σ e m->f e=g m):∀(es:List (AV×AV×Nat)) (l:List MapEntry),EL σ es l->EL σ (es.filter f) (l.filter g)
 | [],l,h=>by have:=h.nil;subst this;exact h
 | e::es,l,h=>by
  obtain⟨m,l',rfl,he,hl⟩:=h.cons;have ih:=EL.filter hfg es l' hl;simp only[List.filter_cons,hfg e m he];cases g m
  ·exact ih
  ·exact EL.append (EL.one he) ih
theorem EL.all{σ:Sg}{f:AV×AV×Nat->Bool}{g:MapEntry->Bool}(hfg:∀e m,ER σ e m->f e=g m):∀(es:List (AV×AV×Nat)) (l:List MapEntry),EL σ es l->es.all f=l.all g
 | [],l,h=>by have:=h.nil;subst this;rfl
 | e::es,l,h=>by
  obtain⟨m,l',rfl,he,hl⟩:=h.cons;simp only[List.all_cons,hfg e m he,EL.all hfg es l' hl]
theorem EL.isEmpty{σ:Sg}{es:List (AV×AV×Nat)}{l:List MapEntry}(h:EL σ es l):es.isEmpty=l.isEmpty:=by
 have:=h.1;cases es<;>cases l<;>simp_all
theorem Pp{P:Program}{w:World}{n:Nat}(hn:0<n):∃k w',(choose (.mapNext n)).run P w=.ok k w'/\k<n/\w'.heap=w.heap/\w'.os=w.os/\w'.tape=w.tape/\w'.output=w.output:=by
 rw[run_choose];by_cases h:n<=1
 ·have:(Question.mapNext n).forced=true:=by simp[Question.forced,h]
  rw[if_pos this];exact⟨0,w,rfl,hn,rfl,rfl,rfl,rfl⟩
 ·have:¬(Question.mapNext n).forced=true:=by simp[Question.forced];omega
  rw[if_neg this];exact⟨_,_,rfl,Nat.mod_lt _ hn,rfl,rfl,rfl,rfl⟩
theorem Kg{P:Program}{σ:Sg}{h:H}{w:World}(hr:HR σ h w){x:AV}{v:Value}{isS:Bool}{T:TypeId}{outs:List (AV×H)}(hl:xX h x isS=some outs)(hv:V σ x v):
 ∃r h',(r,h')∈outs/\Yields P σ h h' w r (Instr.next v isS T):=by
 unfold xX at hl;split at hl
 ·rename_i id
  cases hv with
  | @ptr _ _ p hp=>
   split at hl
   ·rename_i since seen st ho;obtain⟨q,hq,m',g1,g0,g2⟩:=hr.obj id _ ho;rw[hp] at hq;cases hq;simp only at g2;subst g2;simp only[one,Option.some.injEq] at hl;subst hl;refine⟨_,_,mem_singleton.2 rfl,σ,.tuple #[.bool false],w,?_,.fE (.cons (.bool _) .nil),hr,.refl _ _ _⟩;rw[g0];simp only[Instr.next,zero_add,Sem.run_bind,cm g1 (by simp),Result.andThen_ok,Sem.run_pure]
   ·rename_i m since seen last ho;obtain⟨q,hq,m',g1,g0,g2⟩:=hr.obj id _ ho;rw[hp] at hq;cases hq;simp only at g2;obtain⟨pm,hpm,rfl⟩:=g2
    cases hm:h.mapOf m with
    | none=>simp[hm] at hl
    | some q=>
     obtain⟨es,clock⟩:=q;simp only[hm,bind_some] at hl;obtain⟨hom,es',k1,k2⟩:=hr.map hm hpm;cases hgone:(!seen.isEmpty&&(!es.isEmpty&&es.all (λe=>ble last e.2.2)))
     ·rw[hgone,ao] at hl;simp only[Option.some.injEq] at hl;subst hl
      have hgone':(!seen.toArray.isEmpty&&!es'.isEmpty&&es'.all (λe=>decide (e.born≥last)))=false:=by
       have e1:seen.toArray.isEmpty=seen.isEmpty:=by simp
       have e2:es'.isEmpty=es.isEmpty:=by rw[k2.isEmpty];simp
       have e3:es'.all (λe=>decide (e.born≥last))=es.all (λe=>ble last e.2.2):=by
        rw[<-Array.all_toList,k2.all (g:=λe=>decide (e.born≥last))];intro e mm he;rw[he.2.2];cases hb:ble last mm.born
        ·have:=wg hb;symm;simp;omega
        ·have:=iO hb;symm;simp;omega
       rw[e1,e2,e3,Bool.and_assoc];exact hgone
      have hleft:EL σ (es.filter λe=>!(seenIn e.2.2 seen)) (es'.toList.filter λe=>!(seen.toArray.contains e.born)):=
       EL.filter (λe mm he=>by rw[yf,he.2.2];simp) _ _ k2
      have hlt:∀(e:AV×AV×Nat) (mm:MapEntry),ER σ e mm->blt e.2.2 since=decide (mm.born<since):=by
       intro e mm he;rw[he.2.2];cases hb:blt mm.born since
       ·have:=Il hb;symm;simp;omega
       ·have:=fQ hb;symm;simp;omega
      have hold:EL σ ((es.filter λe=>!(seenIn e.2.2 seen)).filter λe=>blt e.2.2 since) ((es'.toList.filter λe=>!(seen.toArray.contains e.born)).filter λe=>decide (e.born<since)):=
       EL.filter hlt _ _ hleft
      have hnew:EL σ ((es.filter λe=>!(seenIn e.2.2 seen)).filter λe=>!(blt e.2.2 since)) ((es'.toList.filter λe=>!(seen.toArray.contains e.born)).filter λe=>decide (e.born≥since)):=
       EL.filter (λe mm he=>by rw[hlt e mm he];by_cases hx:mm.born<since<;>simp[hx]<;>omega) _ _ hleft
      generalize ((es.filter λe=>!(seenIn e.2.2 seen)).filter λe=>blt e.2.2 since)=Oa at hold ⊢;generalize ((es.filter λe=>!(seenIn e.2.2 seen)).filter λe=>!(blt e.2.2 since))=Na at hnew ⊢
      have hcand:((if ((es'.filter λe=>!(seen.toArray.contains e.born)).filter λe=>decide (e.born<since)).isEmpty then #[none] else #[])++
       (((es'.filter λe=>!(seen.toArray.contains e.born)).filter λe=>decide (e.born<since))++((es'.filter λe=>!(seen.toArray.contains e.born)).filter λe=>decide (e.born≥since))).map some:Array (Option MapEntry)).toList=
       (if ((es'.toList.filter λe=>!(seen.toArray.contains e.born)).filter λe=>decide (e.born<since)).isEmpty then [none] else [])++
       (((es'.toList.filter λe=>!(seen.toArray.contains e.born)).filter λe=>decide (e.born<since))++((es'.toList.filter λe=>!(seen.toArray.contains e.born)).filter λe=>decide (e.born≥since))).map some:=by
       have e1:((es'.filter λe=>!(seen.toArray.contains e.born)).filter λe=>decide (e.born<since)).toList=(es'.toList.filter λe=>!(seen.toArray.contains e.born)).filter λe=>decide (e.born<since):=by
        simp only[Array.toList_filter]
       have e2:((es'.filter λe=>!(seen.toArray.contains e.born)).filter λe=>decide (e.born≥since)).toList=(es'.toList.filter λe=>!(seen.toArray.contains e.born)).filter λe=>decide (e.born≥since):=by
        simp only[Array.toList_filter]
       have e3:((es'.filter λe=>!(seen.toArray.contains e.born)).filter λe=>decide (e.born<since)).isEmpty=((es'.toList.filter λe=>!(seen.toArray.contains e.born)).filter λe=>decide (e.born<since)).isEmpty:=by
        rw[<-e1,Array.isEmpty_toList]
       rw[Array.toList_append,toList_map,Array.toList_append,e1,e2,e3];split<;>rfl
      revert hcand
      generalize hC:((if ((es'.filter λe=>!(seen.toArray.contains e.born)).filter λe=>decide (e.born<since)).isEmpty then #[none] else #[])++
       (((es'.filter λe=>!(seen.toArray.contains e.born)).filter λe=>decide (e.born<since))++((es'.filter λe=>!(seen.toArray.contains e.born)).filter λe=>decide (e.born≥since))).map some:Array (Option MapEntry))=C
      intro hcand;generalize ((es'.toList.filter λe=>!(seen.toArray.contains e.born)).filter λe=>decide (e.born<since))=O' at hold hcand;generalize ((es'.toList.filter λe=>!(seen.toArray.contains e.born)).filter λe=>decide (e.born≥since))=N' at hnew hcand;have hON:=hold.append hnew
      have hpos:0<C.size:=by
       rw[<-length_toList,hcand];cases O'<;>simp
      obtain⟨k,w1,hk,hkn,hw1,e1,e2,e3⟩:=Pp (P:=P) (w:=w) hpos
      have hrun:∀c,C[k]?=some c->(Instr.next (.pointer (some ⟨p.b,p.d+0,none⟩)) false T).run P w=(match c with
       | some e=>((setObj p.b (.mapIter (some pm.b) since (seen.toArray.push e.born) clock)).run P w1).andThen λ_ w2=>.ok (.tuple #[.bool true,e.key,e.val]) w2
       | none=>.ok (.tuple #[.bool false]) w1):=by
       intro c hc;rw[g0];simp only[Instr.next,zero_add,Sem.run_bind,cm g1 (by simp),Result.andThen_ok,cm k1 (by simp),hgone',Bool.false_eq_true,if_false];simp only[hC,hk,Result.andThen_ok,hc]
       cases c with
       | none=>rfl
       | some e=>simp only[Sem.run_bind,Sem.run_pure]
      have hCk:C[k]?=C.toList[k]?:=by simp
      rw[hcand] at hCk
      have hgo:∀(j:Nat),(∀mm,(O'++N')[j]?=some mm->C[k]?=some (some mm))->j<(O'++N').length->
       (∀e,(Oa++Na)[j]?=some e->((.bI [.bool true,e.1,e.2.1],h.set id (.iE (some m) since (seen++[e.2.2]) clock)):AV×H)∈o8 h id m since seen clock Oa Na)->
       ∃r h',(r,h')∈o8 h id m since seen clock Oa Na/\Yields P σ h h' w r (Instr.next (.pointer (some ⟨p.b,p.d+0,none⟩)) false T):=by
       intro j h1 hj h2
       have hja:j<(Oa++Na).length:=by have:=hON.1;omega
       have he:=List.getElem?_eq_getElem hja;obtain⟨mm,hm1,hm2⟩:=hON.get he;have hr1:=hr.congr hw1
       have ho1:w1.heap[p.b]?=some (.mapIter (some pm.b) since seen.toArray last):=by rw[hw1];exact g1
       obtain⟨s1,s2⟩:=hr1.jD (o':=.iE (some m) since (seen++[(Oa++Na)[j].2.2]) clock) (ob:=.mapIter (some pm.b) since (seen.toArray.push mm.born) clock) ho rfl rfl hp
        ⟨some pm.b,by rw[hm2.2.2];simp,g0,pm,hpm,rfl⟩
       refine⟨_,_,h2 _ he,σ,.tuple #[.bool true,mm.key,mm.val],_,?_,.fE (.cons (.bool _) (.cons hm2.1 (.cons hm2.2.1 .nil))),s1,(Ext.of_eq hw1 e1 e2 e3).trans s2⟩;rw[hrun _ (h1 mm hm1)];simp only[dY ho1 (by simp),Result.andThen_ok]
      cases hO:O'.isEmpty
      ·have hOa:Oa.isEmpty=false:=by rw[hold.isEmpty];exact hO
       rw[hO] at hCk;simp only[Bool.false_eq_true,if_false,List.nil_append,List.getElem?_map] at hCk
       have hkl:k<(O'++N').length:=by
        have:=hkn;rw[<-length_toList,hcand,hO] at this;simpa using this
       refine hgo k (λmm hmm=>by rw[hCk,hmm];rfl) hkl ?_;intro e he;simp only[o8,hOa,ao,List.nil_append];exact mem_map.2 ⟨e,List.mem_of_getElem? he,rfl⟩
      ·have hOa:Oa.isEmpty=true:=by rw[hold.isEmpty];exact hO
       rw[hO] at hCk;simp only[if_true] at hCk
       cases k with
       | zero=>
        simp only[List.singleton_append,List.getElem?_cons_zero] at hCk;refine⟨.bI [.bool false],h,?_,σ,.tuple #[.bool false],w1,?_,.fE (.cons (.bool _) .nil),hr.congr hw1,.of_eq hw1 e1 e2 e3⟩
        ·simp[o8,hOa]
        ·rw[hrun _ hCk]
       | succ k=>
        simp only[List.singleton_append,List.getElem?_cons_succ,List.getElem?_map] at hCk
        have hkl:k<(O'++N').length:=by
         have:=hkn;rw[<-length_toList,hcand,hO] at this;simp at this;simp;omega
        refine hgo k (λmm hmm=>by rw[hCk,hmm];rfl) hkl ?_;intro e he;simp only[o8];exact List.mem_append_right _ (mem_map.2 ⟨e,List.mem_of_getElem? he,rfl⟩)
     ·simp[hgone] at hl
   ·simp at hl
 ·simp at hl
theorem NG{b i:Nat}{σ:Sg}{es:List (AV×AV×Nat)}{l:Array MapEntry}(h:EL σ es l.toList)(hb:jS b es 0=some i):∃e m,es[i]?=some e/\l.find? (λe=>e.born==b)=some m/\ER σ e m:=by
 obtain⟨h1,h2,⟨x,h3,h4⟩,h5⟩:=qY es 0 i hb;obtain⟨m,hm1,hm2⟩:=h.get (i:=i) (by simpa using h3);refine⟨x,m,by simpa using h3,?_,hm2⟩
 have hi:i<l.size:=by have:=jY hm1;simpa using this
 have hm1':l[i]=m:=by
  have:l[i]?=some m:=by simpa using hm1
  rw[Array.getElem?_eq_getElem hi] at this;simpa using this
 rw[Array.find?_eq_some_iff_getElem];refine⟨by have:=hm2.2.2;simp;omega,i,hi,hm1',?_⟩;intro j hj
 have hjl:j<es.length:=by have:=h.1;simp at this;omega
 have:=h5 j (by omega) _ (List.getElem?_eq_getElem hjl);have hr:=(h.2 j _ (l[j]'(by omega)) (List.getElem?_eq_getElem hjl) (by simp)).2.2;simp;omega
theorem GD{P:Program}{σ:Sg}{h:H}{w:World}(hr:HR σ h w){x r:AV}{v:Value}(hl:tV h x=some r)(hv:V σ x v):∃z,(Instr.entry v).run P w=.ok z w/\V σ r z:=by
 unfold tV at hl;split at hl
 ·rename_i id
  cases hv with
  | @ptr _ _ p hp=>
   split at hl
   ·rename_i m since seen st ho;obtain⟨q,hq,m',g1,g0,g2⟩:=hr.obj id _ ho;rw[hp] at hq;cases hq;simp only at g2;obtain⟨pm,hpm,rfl⟩:=g2;split at hl
    ·rename_i stamp hst
     cases hm:h.mapOf m with
     | none=>simp[hm] at hl
     | some q=>
      obtain⟨es,c⟩:=q;simp only[hm,bind_some] at hl;obtain⟨_,es',k1,k2⟩:=hr.map hm hpm;obtain⟨hc,hl2⟩:=aK hl;have hc:=cP hc;subst hc
      cases hb:jS stamp es 0 with
      | none=>simp[hb] at hl2
      | some i=>
       simp only[hb,bind_some] at hl2;obtain⟨e,mm,f1,f2,f3⟩:=NG k2 hb;simp only[f1,map_some,Option.some.injEq] at hl2;subst hl2;refine⟨.tuple #[mm.key,mm.val],?_,.fE (.cons f3.1 (.cons f3.2.1 .nil))⟩
       have hback:seen.toArray.back?=some stamp:=by simpa using hst
       rw[g0];simp only[Instr.entry,zero_add,Sem.run_bind,cm g1 (by simp),Result.andThen_ok,hback,cm k1 (by simp),bne_self_eq_false,Bool.false_eq_true,if_false,f2,Sem.run_pure]
    ·simp at hl
   ·simp at hl
 ·simp at hl
theorem uZ{P:Program}{t:TypeId}{name:String}{f:FuncId}(h:iM P t name=some f):∃(i:TypeInfo) (m:Method) (d:TypeDesc),P.info? t=some i/\i.methods.find? (·.name==name)=some m/\m.path.isEmpty=true/\m.func=some (f,false)/\P.underlying t=some d/\(∀e,d≠.pointer e):=by
 unfold iM at h
 cases hi:P.info? t with
 | none=>simp[hi] at h
 | some i=>
  simp only[hi,bind_some] at h
  cases hm:i.methods.find? (·.name==name) with
  | none=>simp[hm] at h
  | some m=>
   simp only[hm,bind_some] at h;split at h
   ·rename_i g hp hf;split at h
    all_goals first
     | (rename_i hu;simp only[Option.some.injEq] at h;subst h;exact⟨i,m,_,rfl,hm,hp,hf,hu,by simp⟩)
     | simp at h
   ·simp at h
theorem za{P:Program}{σ:Sg}{w:World}{ρ:Operand->Value}{X:Operand}{x r:AV}{o:Oper}(h:nF P x=some r)(hv:V σ x (ρ X))(ho:o.op=.nilCheck X):
 ∃z,(execOp ρ o).run P w=.ok (.value z) w/\V σ r z:=by
 unfold nF at h;split at h
 ·simp only[Option.some.injEq] at h;subst h;generalize hg:ρ X=v at hv
  cases hv with
  | ptr hp=>exact⟨_,by simp only[execOp,ho,hg,Sem.run_pure],.ptr hp⟩
 ·simp only[Option.some.injEq] at h;subst h;generalize hg:ρ X=v at hv;have hv':=hv
  cases hv with
  | fn hf h1 h2 h3 h4=>exact⟨_,by simp only[execOp,ho,hg,Sem.run_pure],hv'⟩
 ·rename_i name t a cap
  cases hm:iM P t name with
  | none=>simp[hm] at h
  | some f=>
   simp only[hm,map_some,Option.some.injEq] at h;subst h;obtain⟨i,m,d,hi,hf,hp,hfu,hu,hd⟩:=uZ hm;generalize hg:ρ X=v at hv;have hv':=hv
   cases hv with
   | @fn _ _ _ fs' cs' hfy h1 h2 h3 h4=>
    have hsz:fs'.size=1:=by simpa using h1.symm
    have h00:fs'[0]?=some (fs'[0]'(by omega)):=Array.getElem?_eq_getElem _;have hV0:=h2 0 _ _ rfl h00;generalize fs'[0]'(by omega)=v0 at hV0 h00
    cases hV0 with
    | @iface _ _ vv hva=>
     refine⟨_,?_,hv'⟩;simp only[execOp,ho,hg,h00,Sem.run_bind,run_program,Result.andThen_ok]
     have hna:(nilAhead (P.types.size+Made.depth) t vv name).run P w=.ok (some false) w:=by
      rw[show P.types.size+Made.depth=(P.types.size+99)+1 from rfl];generalize P.types.size+99=kk
      have hpath:m.path.toList=[]:=by
       have:=hp;simpa using this
      simp only[nilAhead,Sem.run_bind,cY hi,Result.andThen_ok,hf,hpath,followBlind,Sem.run_pure,hfu,aN hu]
      cases d<;>first
       | rfl
       | exact absurd rfl (hd _)
     simp only[hna,Result.andThen_ok];rfl
 ·simp only[Option.some.injEq] at h;subst h;generalize hg:ρ X=v at hv;have hv':=hv
  cases hv with
  | ic hl=>exact⟨_,by simp only[execOp,ho,hg,Sem.run_pure],hv'⟩
  | slice=>exact⟨_,by simp only[execOp,ho,hg,Sem.run_pure],hv'⟩
 ·simp at h
def Rl(σ:Sg)(r:Option AV)(x:Next):Prop:=match r with
 | some a=>∃v,x=.value v/\V σ a v
 | none=>x=.skip
def vD(P:Program)(σ:Sg)(h h':H)(w:World)(r:Option AV)(s:Sem Next):Prop:=
 ∃σ' x w',s.run P w=.ok x w'/\Rl σ' r x/\HR σ' h' w'/\Ext σ σ' h h' w w'
theorem vD.pure{P:Program}{σ:Sg}{h:H}{w:World}(hr:HR σ h w){a:AV}{s:Sem Value}(hs:∃z,s.run P w=.ok z w/\V σ a z):vD P σ h h w (some a) (do Pure.pure (Next.value (<-s))):=by
 obtain⟨z,h1,h2⟩:=hs;exact⟨σ,.value z,w,by simp only[Sem.run_bind,h1,Result.andThen_ok,Sem.run_pure],⟨z,rfl,h2⟩,hr,.refl _ _ _⟩
theorem vD.yield{P:Program}{σ:Sg}{h h':H}{w:World}{a:AV}{s:Sem Value}(hs:Yields P σ h h' w a s):vD P σ h h' w (some a) (do Pure.pure (Next.value (<-s))):=by
 obtain⟨σ',z,w',h1,h2,h3,h4⟩:=hs;exact⟨σ',.value z,w',by simp only[Sem.run_bind,h1,Result.andThen_ok,Sem.run_pure],⟨z,rfl,h2⟩,h3,h4⟩
theorem vD.unit{P:Program}{σ:Sg}{h h':H}{w:World}{s:Sem Unit}(hs:∃w',s.run P w=.ok () w'/\HR σ h' w'/\Ext σ σ h h' w w'):vD P σ h h' w none (do s;Pure.pure Next.skip):=by
 obtain⟨w',h1,h2,h3⟩:=hs;exact⟨σ,.skip,w',by simp only[Sem.run_bind,h1,Result.andThen_ok,Sem.run_pure],rfl,h2,h3⟩
theorem J8{α β:Type}{r:Option α}{f:α->β}{outs:List β}(h:r.map (λx=>[f x])=some outs):∃a,r=some a/\outs=[f a]:=by
 cases r with
 | none=>simp at h
 | some a=>simp at h;exact⟨a,rfl,h.symm⟩
theorem lM{α β:Type}{r:Option α}{f:α->Option β}{y:β}(h:r.bind f=some y):∃a,r=some a/\f a=some y:=by
 cases r with
 | none=>simp at h
 | some a=>exact⟨a,rfl,h⟩
theorem au{α β:Type}{r:Option α}{f:α->β}{y:β}(h:r.map f=some y):∃a,r=some a/\f a=y:=by
 cases r with
 | none=>simp at h
 | some a=>simp at h;exact⟨a,rfl,h⟩
theorem Gs{P:Program}{σ:Sg}{h:H}{w:World}{t:Tr AV}{ρ:Operand->Value}(hρ:∀x a,ev t x=some a->V σ a (ρ x))(hr:HR σ h w){o:Oper}{id:Nat}{a:AV}{ob:AO}(hl:nQ P t o.op id=some (a,ob))
 (hid:σ id=none) (hlt:id<h.next) (hlow:h.low<=id) (hf:∀j cs,h.aQ.get j≠some (.cells cs id)):
 ∃σ' v w',(execOp ρ o).run P w=.ok (.value v) w'/\V σ' a v/\HR σ' (h.lay id ob) w'/\Ext σ σ' { h with next:=id } (h.lay id ob) w w'/\(∃q,w.heap.size<=q.b/\σ'=up σ id q):=by
 have row:∀(aS:List AV) (c:Array Value) (e:TypeId) (v:Value),ob=.cells aS id->VL σ aS c.toList->(execOp ρ o).run P w=.ok (.value v) { w with heap:=w.heap.push (.cells c e (0,0)) }->
  (∀σ':Sg,σ' id=some ⟨w.heap.size,0,c.size⟩->V σ' a v)->∃σ' v w',(execOp ρ o).run P w=.ok (.value v) w'/\V σ' a v/\HR σ' (h.lay id ob) w'/\Ext σ σ' { h with next:=id } (h.lay id ob) w w'/\(∃q,w.heap.size<=q.b/\σ'=up σ id q):=by
  intro aS c e v e1 hvl hrun hV;subst e1
  obtain⟨k1,k2⟩:=hr.lay (r:=c.size) (o:=.cells aS id) (ob:=.cells c e (0,0)) (w':={ w with heap:=w.heap.push (.cells c e (0,0)) }) hid hlt hlow hf (λcs f hh=>by cases hh;rfl)
   (Gn (hvl.mono (mn hid)) (List.take_of_length_le (le_refl _))) rfl rfl rfl rfl
  exact⟨_,v,_,hrun,hV _ (dW _ _ _),k1,k2,_,le_refl _,rfl⟩
 have mp:ob=.map [] 0->a=.map (some id)->(execOp ρ o).run P w=.ok (.value (.map (some w.heap.size))) { w with heap:=w.heap.push (.map #[] 0) }->
  ∃σ' v w',(execOp ρ o).run P w=.ok (.value v) w'/\V σ' a v/\HR σ' (h.lay id ob) w'/\Ext σ σ' { h with next:=id } (h.lay id ob) w w'/\(∃q,w.heap.size<=q.b/\σ'=up σ id q):=by
  intro e1 e2 hrun;subst e1;subst e2
  obtain⟨k1,k2⟩:=hr.lay (r:=0) (o:=.map [] 0) (ob:=.map #[] 0) (w':={ w with heap:=w.heap.push (.map #[] 0) }) hid hlt hlow hf (λcs f hh=>by cases hh)
   ⟨#[],rfl,rfl,λi e m he _=>by simp at he⟩ rfl rfl rfl rfl
  exact⟨_,_,_,hrun,.map (p:=⟨w.heap.size,0,0⟩) (dW _ _ _),k1,k2,_,le_refl _,rfl⟩
 unfold nQ at hl;split at hl
 ·rename_i e ho;obtain⟨z,hz,he⟩:=au hl;simp only[Prod.mk.injEq] at he;obtain⟨rfl,rfl⟩:=he;obtain⟨zv,hzr,hzV,_⟩:=gR (w:=w) (σ:=σ) hz;refine row _ zv.cells e _ rfl hzV.cells ?_ (λσ' hs=>.ptr (p:=⟨w.heap.size,0,zv.cells.size⟩) hs);simp only[execOp,ho,Instr.alloc,Sem.run_bind,hzr,Result.andThen_ok,newVar,newRow,run_newObj,Sem.run_pure]
 ·rename_i e x ho;obtain⟨y,hy,he⟩:=au hl;simp only[Prod.mk.injEq] at he;obtain⟨rfl,rfl⟩:=he;have hV:=hρ _ _ hy;refine row _ (ρ x).cells e _ rfl hV.cells ?_ (λσ' hs=>.ptr (p:=⟨w.heap.size,0,(ρ x).cells.size⟩) hs);simp only[execOp,ho,Instr.box,Sem.run_bind,Result.andThen_ok,newVar,newRow,run_newObj,Sem.run_pure]
 ·rename_i tt n ps ho;obtain⟨qs,hq,hl⟩:=lM hl;obtain⟨⟨s,cs⟩,hb,he⟩:=au hl;simp only[Prod.mk.injEq] at he;obtain⟨rfl,rfl⟩:=he;have hpr:=uy hρ ps.toList qs hq
  have hpr':PL σ qs (ps.map λ(i,x)=>(i,ρ x)).toList:=by simpa using hpr
  obtain⟨c,e,g1,g2,g3⟩:=vF (w:=w) hb hpr';refine row _ c e _ rfl g2 ?_ (λσ' hs=>.slice (p:=⟨w.heap.size,0,c.size⟩) hs (le_refl _) (by have:=g2.1;simp at this;simp only;omega) (λx hx=>by simpa using hx.symm) (.inl rfl));simp only[execOp,ho,Sem.run_bind,g1,Result.andThen_ok,Sem.run_pure]
 ·rename_i tt r ho;split at hl
  ·simp only[Option.some.injEq,Prod.mk.injEq] at hl;obtain⟨rfl,rfl⟩:=hl;refine mp rfl rfl ?_;simp only[execOp,ho,Option.map_none,Instr.makeMap,Sem.run_bind,Sem.run_pure,Result.andThen_ok,run_newObj]
  ·rename_i x;split at hl
   ·rename_i k n q hx hm;simp only[Option.some.injEq,Prod.mk.injEq] at hl;obtain⟨rfl,rfl⟩:=hl;obtain⟨kt,et⟩:=q;refine mp rfl rfl ?_;have hV:=hρ _ _ hx;generalize hg:ρ x=v at hV;cases hV;simp only[execOp,ho,map_some,hg,Instr.makeMap,Sem.run_bind,aN (kL hm),asInt,asIntOf,Sem.run_pure,Result.andThen_ok,run_newObj]
   ·simp at hl
 ·rename_i tt l c ho;obtain⟨l',hl',hl⟩:=lM hl;obtain⟨c',hc',hl⟩:=lM hl;obtain⟨⟨n,s,m,cs⟩,hb,he⟩:=au hl;simp only[Prod.mk.injEq] at he;obtain⟨rfl,rfl⟩:=he;obtain⟨arr,e,g1,g2,g3,g4⟩:=xM (w:=w) hb (hρ _ _ hl') (hρ _ _ hc');refine row _ arr e _ rfl g2 ?_ (λσ' hs=>.slice (p:=⟨w.heap.size,0,arr.size⟩) hs g3 (by have:=g2.1;simp at this;simp only;omega) (λx hx=>by simpa using hx.symm) (.inl rfl));simp only[execOp,ho,Sem.run_bind,g1,Result.andThen_ok,Sem.run_pure]
 ·simp at hl
theorem BK{P:Program}{σ:Sg}{h h':H}{w:World}(hr:HR σ h w){b:Builtin}{ats:Array TypeId}{T:TypeId}{cn:Array Bool}{aS:List AV}{args:Array Value}{r:AV}(hl:lN P h b ats.toList aS=some (r,h'))
 (hv:VL σ aS args.toList):vD P σ h h' w (some r) (builtin b ats T cn args):=by
 have at0:∀{t:TypeId} {l:List TypeId},ats.toList=t::l->ats[0]?=some t:=λe=>by rw[<-getElem?_toList,e];rfl
 have at1:∀{t s:TypeId} {l:List TypeId},ats.toList=t::s::l->ats[1]?=some s:=λe=>by rw[<-getElem?_toList,e];rfl
 have ar0:∀{v:Value} {l:List Value},args.toList=v::l->args[0]?=some v:=λe=>by rw[<-getElem?_toList,e];rfl
 have ar1:∀{v u:Value} {l:List Value},args.toList=v::u::l->args[1]?=some u:=λe=>by rw[<-getElem?_toList,e];rfl
 unfold lN at hl;split at hl
 ·rename_i st xt _ x y hats;obtain⟨v,l,e1,hV,hl1⟩:=hv.dF;obtain⟨u,l2,e2,hU,_⟩:=hl1.dF;subst e2;exact .yield (Dm hr hl (at0 hats) (at1 hats) (ar0 e1) (ar1 e1) hV hU)
 ·rename_i t _ x _ hats;obtain⟨v,l,e1,hV,_⟩:=hv.dF;obtain⟨q,hq,he⟩:=au hl;simp only[Prod.mk.injEq] at he;obtain⟨rfl,rfl⟩:=he;exact .pure hr (LV hr hq (at0 hats) (ar0 e1) hV)
 ·rename_i t _ o n es c hats;obtain⟨v,l,e1,hV,_⟩:=hv.dF;split at hl
  ·rename_i e hu;simp only[Option.some.injEq,Prod.mk.injEq] at hl;obtain⟨rfl,rfl⟩:=hl;have a0:=ar0 e1;refine .pure hr ⟨goInt c,?_,.int _ _⟩
   cases hV with
   | ic h0=>simp only[Builtin.cap_,at0 hats,a0,Sem.run_bind,aN hu,Result.andThen_ok,Sem.run_pure]
   | slice hp hl hroom hcap haddr=>
    have:=hcap c rfl;subst this;simp only[Builtin.cap_,at0 hats,a0,Sem.run_bind,aN hu,Result.andThen_ok,Sem.run_pure]
  ·simp at hl
 ·rename_i dt _ x y _ hats;obtain⟨v,l,e1,hV,hl1⟩:=hv.dF;obtain⟨u,l2,e2,hU,_⟩:=hl1.dF;subst e2;exact .yield (JN hr hl (at0 hats) (ar0 e1) (ar1 e1) hV hU)
 ·rename_i x l;obtain⟨v,us,e1,hV,hus⟩:=hv.dF;obtain⟨q,hq,he⟩:=au hl;simp only[Prod.mk.injEq] at he;obtain⟨rfl,rfl⟩:=he;obtain⟨z,hz,hZ⟩:=pq (P:=P) (w:=w) false l x q v us hq hV hus;exact .pure hr ⟨z,by simp only[Builtin.min_,e1];exact hz,hZ⟩
 ·rename_i x l;obtain⟨v,us,e1,hV,hus⟩:=hv.dF;obtain⟨q,hq,he⟩:=au hl;simp only[Prod.mk.injEq] at he;obtain⟨rfl,rfl⟩:=he;obtain⟨z,hz,hZ⟩:=pq (P:=P) (w:=w) true l x q v us hq hV hus;exact .pure hr ⟨z,by simp only[Builtin.max_,e1];exact hz,hZ⟩
 ·rename_i t _ x k _ hats;obtain⟨v,l,e1,hV,hl1⟩:=hv.dF;obtain⟨u,l2,e2,hU,_⟩:=hl1.dF;subst e2;exact .yield (DQ hr hl (at0 hats) (ar0 e1) (ar1 e1) hV hU)
 ·rename_i t _ x _ hats;obtain⟨v,l,e1,hV,_⟩:=hv.dF;exact .yield (Gz hr hl (at0 hats) (ar0 e1) hV)
 ·simp at hl
theorem N7{P:Program}{σ:Sg}{h:H}{w:World}{t:Tr AV}{ρ:Operand->Value}(hρ:∀x a,ev t x=some a->V σ a (ρ x))(hr:HR σ h w){o:Oper}{outs:List (Option AV×H)}(hl:ef P t h o.op=some outs):
 ∃r h',(r,h')∈outs/\vD P σ h h' w r (execOp ρ o):=by
 have pv:∀(q:Option AV) (s:Sem Value),q.map (λx=>[(some x,h)])=some outs->(∀a,q=some a->∃z,s.run P w=.ok z w/\V σ a z)->execOp ρ o=(do Pure.pure (Next.value (<-s)))->∃r h',(r,h')∈outs/\vD P σ h h' w r (execOp ρ o):=by
  intro q s hq hs he;obtain⟨a,ha,rfl⟩:=J8 hq;exact⟨_,_,mem_singleton.2 rfl,he▸.pure hr (hs a ha)⟩
 have pvh:∀(q:Option (AV×H)) (s:Sem Value),q.map (λx=>[(some x.1,x.2)])=some outs->(∀a h',q=some (a,h')->Yields P σ h h' w a s)->execOp ρ o=(do Pure.pure (Next.value (<-s)))->∃r h',(r,h')∈outs/\vD P σ h h' w r (execOp ρ o):=by
  intro q s hq hs he;obtain⟨⟨a,h'⟩,ha,rfl⟩:=J8 hq;exact⟨_,_,mem_singleton.2 rfl,he▸.yield (hs a h' ha)⟩
 have pu:∀(q:Option H) (s:Sem Unit),q.map (λx=>[((none:Option AV),x)])=some outs->(∀h',q=some h'->∃w',s.run P w=.ok () w'/\HR σ h' w'/\Ext σ σ h h' w w')->execOp ρ o=(do s;Pure.pure Next.skip)->∃r h',(r,h')∈outs/\vD P σ h h' w r (execOp ρ o):=by
  intro q s hq hs he;obtain⟨h',ha,rfl⟩:=J8 hq;exact⟨_,_,mem_singleton.2 rfl,he▸.unit (hs h' ha)⟩
 have al:∀q:Option (AV×H),q.map (λx=>[(some x.1,x.2)])=some outs->q=(nQ P t o.op h.next).map (λ(v,ob)=>(v,({ h.lay h.next ob with next:=h.next+1 }:H)))->∃r h',(r,h')∈outs/\vD P σ h h' w r (execOp ρ o):=by
  intro q hq he;obtain⟨⟨a,h'⟩,ha,rfl⟩:=J8 hq;rw[he] at ha;obtain⟨⟨v,ob⟩,hv,hx⟩:=au ha;simp only[Prod.mk.injEq] at hx;obtain⟨rfl,rfl⟩:=hx;obtain⟨σ',z,w',k1,k2,k3,k4,_⟩:=Gs hρ (hr.more (h.next+1) (by omega)) (id:=h.next) hv (hr.fresh _ (le_refl _)) (by simp) hr.y8 (λj cs hj=>by have:=(hr.bZ j cs _ hj).1;omega);rw[<-Ec] at k3 k4;exact⟨_,_,mem_singleton.2 rfl,σ',.value z,w',k1,⟨z,rfl,k2⟩,k3,k4.more (by omega)⟩
 have kU:∀{α β:Type} {q:Option α} {f:α->Option β} {y:β},q.bind f=some y->∃a,q=some a/\f a=some y:=λh=>lM h
 cases ho:o.op with
 | move x=>
  rw[ho] at hl;simp only[ef] at hl;exact pv _ (Pure.pure (ρ x)) hl (λa ha=>⟨_,rfl,hρ _ _ ha⟩) (by simp only[execOp,ho];rfl)
 | assign x=>
  rw[ho] at hl;simp only[ef] at hl;exact pv _ (Pure.pure (ρ x)) hl (λa ha=>⟨_,rfl,hρ _ _ ha⟩) (by simp only[execOp,ho];rfl)
 | pick c a b=>
  rw[ho] at hl;simp only[ef] at hl;obtain⟨a',ha,hl⟩:=kU hl;obtain⟨b',hb,hl⟩:=kU hl;split at hl
  ·rename_i hc;have hcV:=hρ _ _ hc;generalize hg:ρ c=v at hcV;cases hcV;exact pv _ (do Pure.pure (if <-asBool (ρ c) then ρ a else ρ b)) hl (λx hx=>⟨ρ a,by simp[hg,asBool],by simp only[Option.some.injEq] at hx;subst hx;exact hρ _ _ ha⟩) (by simp only[execOp,ho,bind_assoc,pure_bind])
  ·rename_i hc;have hcV:=hρ _ _ hc;generalize hg:ρ c=v at hcV;cases hcV;exact pv _ (do Pure.pure (if <-asBool (ρ c) then ρ a else ρ b)) hl (λx hx=>⟨ρ b,by simp[hg,asBool],by simp only[Option.some.injEq] at hx;subst hx;exact hρ _ _ hb⟩) (by simp only[execOp,ho,bind_assoc,pure_bind])
  ·simp at hl
 | alloc e=>rw[ho] at hl;simp only[ef] at hl;exact al _ hl (by rw[ho])
 | box e x=>rw[ho] at hl;simp only[ef] at hl;exact al _ hl (by rw[ho])
 | buildSlice tt n ps=>rw[ho] at hl;simp only[ef] at hl;exact al _ hl (by rw[ho])
 | makeMap tt r=>rw[ho] at hl;simp only[ef] at hl;exact al _ hl (by rw[ho])
 | makeSlice tt l c=>rw[ho] at hl;simp only[ef] at hl;exact al _ hl (by rw[ho])
 | build tt ps=>
  rw[ho] at hl;simp only[ef] at hl;refine pv _ (Instr.build tt (ps.map λ(i,x)=>(i,ρ x))) hl (λa ha=>?_) (by simp only[execOp,ho]);obtain⟨qs,hq,hb⟩:=kU ha;exact Gw hb (by simpa using uy hρ ps.toList qs hq)
 | load tt a=>
  rw[ho] at hl;simp only[ef] at hl;split at hl
  ·rename_i id off ha;have hV:=hρ _ _ ha;generalize hg:ρ a=v at hV
   cases hV with
   | ptr hp=>
    refine pv _ (Instr.loadAt tt (ρ a)) hl (λr hr'=>?_) (by simp only[execOp,ho]);obtain⟨z,h1,h2⟩:=hr.Ej (P:=P) hr' hp;exact⟨z,by simp only[Instr.loadAt,hg,Instr.sureAddr,Sem.run_bind,Sem.run_pure,Result.andThen_ok];exact h1,h2⟩
  ·simp at hl
 | store tt a x=>
  rw[ho] at hl;simp only[ef] at hl;split at hl
  ·rename_i id off y ha hx;have hV:=hρ _ _ ha;generalize hg:ρ a=v at hV
   cases hV with
   | ptr hp=>
    refine pu _ (Instr.storeAt tt (ρ a) (ρ x)) hl (λh' hh=>?_) (by simp only[execOp,ho]);obtain⟨w',h1,h2,h3⟩:=hr.Cw (P:=P) hh hp (hρ _ _ hx);exact⟨w',by simp only[Instr.storeAt,hg,Instr.sureAddr,Sem.run_bind,Sem.run_pure,Result.andThen_ok];exact h1,h2,h3⟩
  ·simp at hl
 | nilCheck x=>
  rw[ho] at hl;simp only[ef] at hl;obtain⟨a,ha,rfl⟩:=J8 hl;obtain⟨y,hy,hn⟩:=kU ha;obtain⟨z,h1,h2⟩:=za (P:=P) (w:=w) (ρ:=ρ) (o:=o) hn (hρ _ _ hy) ho;exact⟨_,_,mem_singleton.2 rfl,σ,_,w,h1,⟨z,rfl,h2⟩,hr,.refl _ _ _⟩
 | binOp op xt x y yt=>
  rw[ho] at hl;simp only[ef] at hl;refine pv _ (do eqGuard op xt x y (ρ x) (ρ y);binOp op xt (ρ x) (ρ y)) hl (λa ha=>?_) (by simp only[execOp,ho]);obtain⟨x',hx,ha⟩:=kU ha;obtain⟨y',hy,ha⟩:=kU ha;obtain⟨z,h1,h2⟩:=Lc (P:=P) (w:=w) ha (hρ _ _ hx) (hρ _ _ hy);exact⟨z,by simp only[Sem.run_bind,DU ha (hρ _ _ hx) (hρ _ _ hy),Result.andThen_ok];exact h1,h2⟩
 | unOp op tt x=>
  rw[ho] at hl;simp only[ef] at hl;refine pv _ (Op.unary op (ρ x)) hl (λa ha=>?_) (by simp only[execOp,ho]);obtain⟨x',hx,ha⟩:=kU ha;exact Oy ha (hρ _ _ hx)
 | convert s d x=>
  rw[ho] at hl;simp only[ef] at hl;refine pv _ (convert s d (ρ x)) hl (λa ha=>?_) (by simp only[execOp,ho]);obtain⟨x',hx,ha⟩:=kU ha;exact JM ha (hρ _ _ hx)
 | makeInterface xt x=>
  rw[ho] at hl;simp only[ef] at hl;split at hl
  ·simp at hl
  ·rename_i d hni hu;refine pv _ (Instr.makeInterface xt (ρ x)) hl (λa ha=>?_) (by simp only[execOp,ho]);obtain⟨x',hx,rfl⟩:=au ha;refine⟨.iface xt (ρ x),?_,.iface (hρ _ _ hx)⟩;simp only[Instr.makeInterface,Sem.run_bind,aN hu,Result.andThen_ok]
   cases d<;>first
    | rfl
    | exact absurd rfl (hni _)
  ·simp at hl
 | makeFunc f first cap=>
  rw[ho] at hl;simp only[ef] at hl
  have hny:∀l,f≠.yield l:=by intro l e;subst e;simp at hl
  have hl2:((tF t first.toList).bind λa=>(tF t cap.toList).map λb=>AV.fn f a b).map (λx=>[(some x,h)])=some outs:=by
   cases f<;>first
    | exact hl
    | simp at hl
  refine pv _ (Instr.makeFunc f (first.map ρ) (cap.map ρ)) hl2 (λa ha=>?_) (by simp only[execOp,ho]);obtain⟨aS,h1,ha⟩:=kU ha;obtain⟨bs,h2,rfl⟩:=au ha;have r1:=oa hρ _ _ h1;have r2:=oa hρ _ _ h2;refine⟨.func f (first.map ρ) (cap.map ρ),rfl,.fn hny (by have:=r1.1;simpa using this) (λi a v x y=>r1.2 i a v x ?_) (by have:=r2.1;simpa using this) (λi a v x y=>r2.2 i a v x ?_)⟩
  ·rw[<-getElem?_toList,toList_map] at y;exact y
  ·rw[<-getElem?_toList,toList_map] at y;exact y
 | slice tt x lo hi mx=>
  rw[ho] at hl;simp only[ef] at hl;refine pv _ (Instr.sliceAt tt (ρ x) (lo.map ρ) (hi.map ρ) (mx.map ρ)) hl (λa ha=>?_) (by simp only[execOp,ho]);obtain⟨x',hx,ha⟩:=kU ha;obtain⟨lo',h1,ha⟩:=kU ha;obtain⟨hi',h2,ha⟩:=kU ha;obtain⟨mx',h3,ha⟩:=kU ha
  have vo:∀(y:Option Operand) (y':Option AV),Lw t y=some y'->VO σ y' (y.map ρ):=by
   intro y y' hy
   cases y with
   | none=>simp[Lw] at hy;subst hy;exact trivial
   | some y=>
    simp only[Lw] at hy;obtain⟨z,hz,rfl⟩:=au hy;exact hρ _ _ hz
  exact Hi hr ha (hρ _ _ hx) (vo _ _ h1) (vo _ _ h2) (vo _ _ h3)
 | fieldAddr s x f=>
  rw[ho] at hl;simp only[ef] at hl;refine pv _ (Instr.fieldAt s (ρ x) f) hl (λa ha=>?_) (by simp only[execOp,ho]);obtain⟨x',hx,ha⟩:=kU ha;exact xh ha (hρ _ _ hx)
 | field s x f=>
  rw[ho] at hl;simp only[ef] at hl;refine pv _ (Instr.field s (ρ x) f) hl (λa ha=>?_) (by simp only[execOp,ho]);obtain⟨x',hx,ha⟩:=kU ha;exact GI ha (hρ _ _ hx)
 | indexAddr tt x i=>
  rw[ho] at hl;simp only[ef] at hl;refine pv _ (Instr.indexAt tt (ρ x) (ρ i)) hl (λa ha=>?_) (by simp only[execOp,ho]);obtain⟨x',hx,ha⟩:=kU ha;obtain⟨i',hi,ha⟩:=kU ha;exact xz ha (hρ _ _ hx) (hρ _ _ hi)
 | index tt x i=>
  rw[ho] at hl;simp only[ef] at hl;refine pv _ (Instr.index tt (ρ x) (ρ i)) hl (λa ha=>?_) (by simp only[execOp,ho]);obtain⟨x',hx,ha⟩:=kU ha;obtain⟨i',hi,ha⟩:=kU ha;exact GN ha (hρ _ _ hx) (hρ _ _ hi)
 | lookup tt x k ok=>
  rw[ho] at hl;simp only[ef] at hl;refine pv _ (Instr.lookup tt (ρ x) (ρ k) ok) hl (λa ha=>?_) (by simp only[execOp,ho]);obtain⟨x',hx,ha⟩:=kU ha;obtain⟨k',hk,ha⟩:=kU ha;exact Ek hr ha (hρ _ _ hx) (hρ _ _ hk)
 | mapUpdate tt m k x=>
  rw[ho] at hl;simp only[ef] at hl;refine pu _ (Instr.mapUpdate tt (ρ m) (ρ k) (ρ x)) hl (λh' hh=>?_) (by simp only[execOp,ho]);obtain⟨m',hm,hh⟩:=kU hh;obtain⟨k',hk,hh⟩:=kU hh;obtain⟨x',hx,hh⟩:=kU hh;exact pF hr hh (hρ _ _ hm) (hρ _ _ hk) (hρ _ _ hx)
 | insert tt m k x=>
  rw[ho] at hl;simp only[ef] at hl;refine pu _ (Instr.mapUpdate tt (ρ m) (ρ k) (ρ x)) hl (λh' hh=>?_) (by simp only[execOp,ho]);obtain⟨m',hm,hh⟩:=kU hh;obtain⟨k',hk,hh⟩:=kU hh;obtain⟨x',hx,hh⟩:=kU hh;exact pF hr hh (hρ _ _ hm) (hρ _ _ hk) (hρ _ _ hx)
 | mapEntry tt m k=>
  rw[ho] at hl;simp only[ef] at hl;refine pvh _ (Instr.mapEntry tt (ρ m) (ρ k)) hl (λa h' hh=>?_) (by simp only[execOp,ho]);obtain⟨m',hm,hh⟩:=kU hh;obtain⟨k',hk,hh⟩:=kU hh;obtain⟨z,w',h1,h2,h3,h4⟩:=y9 (P:=P) hr hh (hρ _ _ hm) (hρ _ _ hk);exact⟨σ,z,w',h1,h2,h3,h4⟩
 | entryStore tt m s x=>
  rw[ho] at hl;simp only[ef] at hl;refine pu _ (Instr.entryStore tt (ρ m) (ρ s) (ρ x)) hl (λh' hh=>?_) (by simp only[execOp,ho]);obtain⟨m',hm,hh⟩:=kU hh;obtain⟨s',hs,hh⟩:=kU hh;obtain⟨x',hx,hh⟩:=kU hh;exact vG hr hh (hρ _ _ hm) (hρ _ _ hs) (hρ _ _ hx)
 | range tt x=>
  rw[ho] at hl;simp only[ef] at hl;refine pvh _ (Instr.range tt (ρ x)) hl (λa h' hh=>?_) (by simp only[execOp,ho]);obtain⟨x',hx,hh⟩:=kU hh;exact He hr hh (hρ _ _ hx)
 | next it isS=>
  rw[ho] at hl;simp only[ef] at hl;split at hl
  ·rename_i x hx;obtain⟨l,h1,rfl⟩:=au hl;obtain⟨r,h',h2,h3⟩:=Kg (P:=P) (T:=o.type) hr h1 (hρ _ _ hx);refine⟨some r,h',mem_map.2 ⟨(r,h'),h2,rfl⟩,?_⟩
   have:execOp ρ o=(do Pure.pure (Next.value (<-Instr.next (ρ it) isS o.type))):=by simp only[execOp,ho]
   rw[this];exact .yield h3
  ·simp at hl
 | entry it=>
  rw[ho] at hl;simp only[ef] at hl;refine pv _ (Instr.entry (ρ it)) hl (λa ha=>?_) (by simp only[execOp,ho]);obtain⟨x',hx,ha⟩:=kU ha;exact GD hr ha (hρ _ _ hx)
 | extract x i=>
  rw[ho] at hl;simp only[ef] at hl;split at hl
  ·rename_i vs hx;refine pv _ (Instr.extract (ρ x) i) hl (λa ha=>?_) (by simp only[execOp,ho]);obtain⟨us,hg,hus⟩:=(hρ _ _ hx).G8;obtain⟨z,h1,h2⟩:=hus.get ha;refine⟨z,?_,h2⟩
   have:us[i]?=some z:=by rw[<-getElem?_toList];exact h1
   simp only[hg,Instr.extract,this,Sem.run_pure]
  ·simp at hl
 | typeAssert x xt aS ok=>
  rw[ho] at hl;simp only[ef] at hl;split at hl
  ·simp at hl
  ·rename_i d hni hu;split at hl
   ·rename_i dt y hx;obtain⟨hd,hl2⟩:=aK hl;clear hl;have:=cP hd;subst this;refine pv _ (Instr.typeAssert (ρ x) xt dt ok) hl2 (λa ha=>?_) (by simp only[execOp,ho]);simp only[Option.some.injEq] at ha;subst ha;have hV:=hρ _ _ hx;generalize hg:ρ x=v at hV
    cases hV with
    | @iface _ _ z hz=>
     refine⟨if ok then .tuple #[z,.bool true] else z,?_,?_⟩
     ·simp only[Instr.typeAssert,Sem.run_bind,aN hu,Result.andThen_ok]
      cases d<;>first
       | (simp;done)
       | exact absurd rfl (hni _)
     ·cases ok
      ·exact hz
      ·exact .fE (.cons hz (.cons (.bool _) .nil))
   ·simp at hl
  ·simp at hl
 | call c=>
  rw[ho] at hl;obtain⟨callee,args,argTypes⟩:=c
  cases callee with
  | builtin b=>
   simp only[ef] at hl;obtain⟨⟨a,h'⟩,ha,rfl⟩:=J8 hl;obtain⟨xs,hx,hb⟩:=kU ha;refine⟨_,_,mem_singleton.2 rfl,?_⟩;have:=oa hρ args.toList xs hx;have hd:=BK (T:=o.type) (cn:=args.map λ| .const _=>true | _=>false) (args:=args.map ρ) hr hb (by simpa using this);obtain⟨σ',x,w',h1,h2,h3,h4⟩:=hd;refine⟨σ',x,w',?_,h2,h3,h4⟩;simp only[execOp,ho,resolve,Sem.run_bind,Sem.run_pure,Result.andThen_ok,invoke];exact h1
  | value f=>simp[ef] at hl
  | invoke r m=>simp[ef] at hl
 | ready g=>rw[ho] at hl;simp[ef] at hl
 | waits g=>rw[ho] at hl;simp[ef] at hl
 | sliceToArrayPointer d x=>rw[ho] at hl;simp[ef] at hl
 | makeChan tt s=>rw[ho] at hl;simp[ef] at hl
 | go c=>rw[ho] at hl;simp[ef] at hl
 | defer c=>rw[ho] at hl;simp[ef] at hl
 | panic x=>rw[ho] at hl;simp[ef] at hl
 | send ch x=>rw[ho] at hl;simp[ef] at hl
 | recv ct ch ok=>rw[ho] at hl;simp[ef] at hl
 | select cs b=>rw[ho] at hl;simp[ef] at hl
end Go.Ev
