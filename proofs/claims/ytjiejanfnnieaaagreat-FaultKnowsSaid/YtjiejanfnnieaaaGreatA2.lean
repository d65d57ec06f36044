/- Lemmas of this claim, each with its conditions. -/
import Derived.Test.YtjiejanfnnieaaaGreatA1
import Derived.Laws.Build
import Derived.OrdersIn
import Derived.Below
import Derived.Lib.Bytealg
import Derived.Deep.Slices
import Derived.Deep.Strs
import Derived.SizedLaws
set_option linter.all false
open Nat (beq blt ble lor)
open List (mem_map mem_range getD mapM map_nil set_nil)
open Array (ext')
open Int (ofNat)
open Array renaming getElem?_toList -> aa, getD_eq_getD_getElem? -> ay, toList_append -> bc, toList_map -> bi, getElem?_eq_getElem -> bt, length_toList -> b7, getElem?_setIfInBounds -> cd, getElem?_eq_none -> c2, toList_filter -> el, replicate -> fy
open List renaming getElem?_cons_succ -> ac, mem_cons_of_mem -> ad, mem_cons_self -> aj, getElem?_append_left -> am, getElem?_cons_zero -> ax, getElem?_append_right -> aJ, getElem?_eq_none -> a9, flatten_cons -> ba, getElem?_map -> bb, range -> bd, getD_eq_getElem?_getD -> bh, any_cons -> bw, take_succ_cons -> bH, filter_cons -> b6, take_of_length_le -> b8, length_map -> b9, length_range -> ca, mem_append_right -> cb, mem_of_getElem? -> cc, map_cons -> ce, set_cons_succ -> cl, set_cons_zero -> co, mapM_cons -> cv, take_zero -> cM, drop_nil -> c3, singleton_append -> c4, take_nil -> c5, getElem?_append -> d3, length_eraseIdx -> d4, mem_append_left -> d5, nil_append -> d6, zip_cons_cons -> em, ext_getElem -> e6, flatten_nil -> fd, not_mem_nil -> fu, range'_succ -> fv, append_nil -> fw, foldl_cons -> fx, drop_zero -> f5
open Nat renaming le_refl -> ap, add_sub_cancel_left -> bv, zero_add -> b5, succ_mul -> ci, eq_zero_or_pos -> d7, zero_le -> d8, add_zero -> er, le_trans -> eu, sub_self -> ey, sub_zero -> e5, add_assoc -> f6
open Bool renaming false_eq_true -> aY, and_eq_true -> be, or_eq_false_iff -> bk, or_eq_true -> c6, or_assoc -> ep
open Option renaming getD_some -> d9
namespace Go.Ev
def Po{P:Program}{σ:Sg}{h:H}{w:World}(hr:HR σ h w){ats:Array TypeId}{T t:TypeId}{args:Array Value}{x r:AV}{v:Value}(hl:GN P h t x=some r)(h0:ats[0]?=some t)(h1:args[0]?=some v)(hv:V σ x v):
 ∃z,(Builtin.len_ ats T args).run P w=.ok z w/\V σ r z:=by
 have main:∀n:Nat,r=.int .i64 (ofNat n)->(Builtin.len_ ats T args).run P w=.ok (goInt n) w->∃z,(Builtin.len_ ats T args).run P w=.ok z w/\V σ r z:=by
  intro n hn hr';subst hn;exact⟨_,hr',.int _ _⟩
 unfold GN at hl;split at hl
 all_goals try (rename_i hu)
 all_goals try (simp only[m6,qr] at hl)
 ·cases hv with
  | str hs=>exact main _ hl.symm (by simp only[Builtin.len_,h0,h1,ne,aO hu,pp,m9,vd hs])
 ·exact main _ hl.symm (by simp only[Builtin.len_,h0,h1,ne,aO hu,pp,m9])
 ·cases hv with
  | iF hl0=>subst hl0;exact main _ hl.symm (by simp only[Builtin.len_,h0,h1,ne,aO hu,pp,m9])
  | slice=>exact main _ hl.symm (by simp only[Builtin.len_,h0,h1,ne,aO hu,pp,m9])
 ·cases hv;exact main 0 hl.symm (by simp only[Builtin.len_,h0,h1,ne,aO hu,pp,m9];rfl)
 ·rename_i id
  cases hm:h.mapOf id with
  | none=>simp[hm] at hl
  | some q=>
   obtain⟨es,c⟩:=q;simp only[hm,m6,qr] at hl
   cases hv with
   | map hp=>
    obtain⟨_,es',g1,g2⟩:=hr.map hm hp;refine main _ hl.symm ?_;have:=g2.1;simp only[Builtin.len_,h0,h1,ne,aO hu,pp,cm g1 gc,m9];simp at this;rw[this]
 ·simp at hl
def Pv{P:Program}{σ:Sg}{w:World}(isMax:Bool){x y r:AV}{v u:Value}(h:AD isMax x y=some r)(hv:V σ x v)(hu:V σ y u):
 ∃z,(if isMax then Builtin.max2 v u else Builtin.min2 v u).run P w=.ok z w/\V σ r z:=by
 unfold AD at h;split at h
 ·rename_i k a k' b;simp only[qr] at h;subst h;cases hv;cases hu;cases isMax
  ·refine⟨.int k (if b<a then b else a),by simp[Builtin.min2],?_⟩;simp only[aw,gR];by_cases hab:a<=b
   ·rw[ut ii];simp only[hab,decide_true,ar];exact .int _ _
   ·rw[un ii];simp only[hab,decide_false,aw];exact .int _ _
  ·refine⟨.int k (if b>a then b else a),by simp[Builtin.max2],?_⟩;rw[gR];by_cases hab:b<=a
   ·rw[ut ii];simp only[hab,decide_true,ar];exact .int _ _
   ·rw[un ii];simp only[hab,decide_false,ar,aw];exact .int _ _
 ·rename_i a b;simp only[qr] at h;subst h
  cases hv with
  | @str _ s1 h1=>cases hu with
   | @str _ s2 h2=>
    have e1:=rO h1 h2
    have e2:fO a b=Op.bytesLess s1.toList s2.toList:=by rw[<-h1,<-h2,ByteArray.toList_eq,ByteArray.toList_eq];exact pc _ _
    cases isMax
    ·refine⟨.string (if (Op.bytesLess s1.toList s2.toList||(s1.toList==s2.toList))=true then s1 else s2),by simp[Builtin.min2,Op.stringOp,asBool],?_⟩;rw[e1,e2];cases (Op.bytesLess s1.toList s2.toList||(s1.toList==s2.toList))
     ·exact .str h2
     ·exact .str h1
    ·refine⟨.string (if (!Op.bytesLess s1.toList s2.toList)=true then s1 else s2),by simp[Builtin.max2,Op.stringOp,asBool],?_⟩;rw[e2];cases (Op.bytesLess s1.toList s2.toList)
     ·exact .str h1
     ·exact .str h2
 ·simp at h
def qU{P:Program}{σ:Sg}{w:World}(isMax:Bool):∀(l:List AV) (x r:AV) (v:Value) (us:List Value),nS isMax x l=some r->V σ x v->VL σ l us->
 ∃z,(us.foldlM (if isMax then Builtin.max2 else Builtin.min2) v).run P w=.ok z w/\V σ r z
 | [],x,r,v,us,h,hv,hu=>by have:=hu.qf;subst this;simp[nS] at h;subst h;exact⟨v,by simp,hv⟩
 | y::l,x,r,v,us,h,hv,hu=>by
  obtain⟨u,us',rfl,h1,h2⟩:=hu.dI;simp only[nS] at h
  cases hm:AD isMax x y with
  | none=>simp[hm] at h
  | some z=>
   simp only[hm,m7] at h;obtain⟨zv,hz,hV⟩:=Pv (P:=P) (w:=w) isMax hm hv h1;obtain⟨q,hq,hQ⟩:=qU isMax l z r zv us' h hV h2;refine⟨q,?_,hQ⟩;rw[List.foldlM_cons]
   have e:(if isMax=true then Builtin.max2 else Builtin.min2) v u=(if isMax=true then Builtin.max2 v u else Builtin.min2 v u):=by cases isMax<;>rfl
   simp only[ne,e,hz,pp];exact hq
def My{P:Program}{σ:Sg}{h h':H}{w:World}(hr:HR σ h w){ats:Array TypeId}{T t:TypeId}{args:Array Value}{x y r:AV}{v u:Value}(hl:F6 P h t x y=some (r,h'))(h0:ats[0]?=some t)(h1:args[0]?=some v)(h2:args[1]?=some u)(hv:V σ x v)(hu:V σ y u):
 Yields P σ h h' w r (Builtin.copy_ ats T args):=by
 unfold F6 at hl;split at hl
 ·rename_i e o dl des dc o' sl ses sc hund
  cases hs:cy P e with
  | none=>simp[hs] at hl
  | some s=>
   simp only[hs,m7] at hl
   have hlen:(Builtin.lenOf u).run P w=.ok sl w:=by cases hu with
    | iF h0=>subst h0;rfl
    | slice=>rfl
   cases hn0:beq (Nat.min sl dl) 0
   ·rw[hn0,aw] at hl;have hn0:=iL hn0;obtain⟨hes,hl2⟩:=aF hl;clear hl;simp only[be] at hes;have e1:=cW hes.1;have e2:=cW hes.2;subst e1;subst e2
    cases hsc:cz h o' (Nat.min sl dl) ses with
    | none=>simp[hsc] at hl2
    | some cs=>
     simp only[hsc,m7] at hl2
     cases o with
     | none=>simp at hl2
     | some q=>
      obtain⟨id,off⟩:=q;simp only at hl2
      cases hst:h.store id off cs with
      | none=>simp[hst] at hl2
      | some h9=>
       simp only[hst,m6,qr,m8] at hl2;obtain⟨rfl,rfl⟩:=hl2;obtain⟨vs,v1,v2,v3⟩:=nz (P:=P) hr hsc (.inl rfl) (Nat.min_le_left _ _) hu
       cases hv with
       | slice hp hl hroom hcap haddr=>
        have:Nat.min sl dl<=dl:=Nat.min_le_right _ _;have haddr:=haddr.resolve_right ii;subst haddr;obtain⟨w',s1,s2,s3⟩:=hr.se (P:=P) hst hp v1;refine⟨σ,goInt (Nat.min sl dl:Nat),w',?_,.int _ _,s2,s3⟩;simp only[Builtin.copy_,h0,h1,h2,ne,aO hund,pp,hlen,bM hs,v3 w rfl,s1,m9]
   ·rw[hn0,ar] at hl;have hn0:=cW hn0;simp only[qr,m8] at hl;obtain⟨rfl,rfl⟩:=hl;refine⟨σ,goInt 0,w,?_,.int _ _,hr,.refl _ _ _⟩
    have hfc:(Builtin.firstCells s 0 u).run P w=.ok #[] w:=by
     cases hu with
     | iF=>simp[Builtin.firstCells]
     | slice=>simp[Builtin.firstCells,loadCells,loadCellsFrom]
    cases hv with
    | iF h00=>
     subst h00;simp only[Builtin.copy_,h0,h1,h2,ne,aO hund,pp,hlen,bM hs,hn0,hfc,m9];rfl
    | slice=>
     simp only[Builtin.copy_,h0,h1,h2,ne,aO hund,pp,hlen,bM hs,hn0,hfc,m9];simp[storeCells]
 ·simp at hl
def EL.eraseIdx{σ:Sg}{es:List (AV×AV×Nat)}{l:List MapEntry}(h:EL σ es l)(i:Nat):EL σ (es.eraseIdx i) (l.eraseIdx i):=by
 refine⟨by rw[d4,d4,h.1],?_⟩;intro j e m he hm;rw[List.getElem?_eraseIdx] at he hm;split at he
 ·rename_i hj;rw[un hj] at hm;exact h.2 j e m he hm
 ·rename_i hj;rw[ut hj] at hm;exact h.2 _ e m he hm
def tp{w:World}{b:Nat}{o:Obj}(h:w.heap[b]?=some o):({ w with heap:=w.heap.setIfInBounds b o }:World)=w:=by
 have:w.heap.setIfInBounds b o=w.heap:=by
  apply Array.ext_getElem?;intro i;rw[cd];split
  ·rename_i e;subst e;rw[h,un (CG (by rw[h];simp))]
  ·rfl
 rw[this]
def Gb{P:Program}{σ:Sg}{h h':H}{w:World}(hr:HR σ h w){ats:Array TypeId}{T t:TypeId}{args:Array Value}{x k r:AV}{v u:Value}(hl:tU P h t x k=some (r,h'))(h0:ats[0]?=some t)(h1:args[0]?=some v)(h2:args[1]?=some u)(hv:V σ x v)(hk:V σ k u):
 Yields P σ h h' w r (Builtin.delete_ ats T args):=by
 unfold tU at hl
 cases hm:dy P t with
 | none=>simp[hm] at hl
 | some q=>
  obtain⟨kt,et⟩:=q;simp only[hm,m7] at hl;obtain⟨hka,hl9⟩:=aF hl;clear hl;have hu:=lK hm;obtain⟨kd,hkd⟩:=D1 hka;split at hl9
  ·cases hv;simp only[qr,m8] at hl9;obtain⟨rfl,rfl⟩:=hl9;refine⟨σ,_,w,?_,.gx (vs:=#[]) .nil,hr,.refl _ _ _⟩;simp only[Builtin.delete_,h0,h1,h2,ne,aO hu,pp,jW hka hk,m9]
  ·rename_i id
   cases hv with
   | @map _ p hp=>
    cases hmo:h.mapOf id with
    | none=>simp[hmo] at hl9
    | some q=>
     obtain⟨es,c⟩:=q;simp only[hmo,m7] at hl9;obtain⟨ho,es',g1,g2⟩:=hr.map hmo hp
     cases hf:iq P kt k es 0 with
     | none=>simp[hf] at hl9
     | some r0=>
      simp only[hf,m6,qr] at hl9;have hfind:=nQ (w:=w) hkd hk hf g2
      cases r0 with
      | some i=>
       simp only[m8] at hl9;obtain⟨rfl,rfl⟩:=hl9;have hi:=ug es 0 i hf;obtain⟨m,hm1,hm2,hfo⟩:=z7 g2 (e:=es[i]' ii) (jp ii)
       have hel:EL σ (es.eraseIdx i) (es'.eraseIdxIfInBounds i).toList:=by
        rw[Array.toList_eraseIdxIfInBounds];exact g2.eraseIdx i
       obtain⟨k1,k2⟩:=hr.kh ho rfl rfl hp (vF (c:=c) (p:=p) hel);refine⟨σ,_,_,?_,.gx (vs:=#[]) .nil,k1,k2⟩;simp only[Builtin.delete_,h0,h1,h2,ne,aO hu,pp,cm g1 gc,jW hka hk,hfind,hfo,ez g1 gc,m9]
      | none=>
       simp only[m8] at hl9;obtain⟨rfl,rfl⟩:=hl9;refine⟨σ,_,w,?_,.gx (vs:=#[]) .nil,hr,.refl _ _ _⟩;simp only[Builtin.delete_,h0,h1,h2,ne,aO hu,pp,cm g1 gc,jW hka hk,hfind,found,ez g1 gc,m9,tp g1]
  ·simp at hl9
def IX{P:Program}{σ:Sg}{h h':H}{w:World}(hr:HR σ h w){ats:Array TypeId}{T t:TypeId}{args:Array Value}{x r:AV}{v:Value}(hl:y9 P h t x=some (r,h'))(h0:ats[0]?=some t)(h1:args[0]?=some v)(hv:V σ x v):
 Yields P σ h h' w r (Builtin.clear_ ats T args):=by
 unfold y9 at hl;split at hl
 ·rename_i hu;simp only[qr,m8] at hl;obtain⟨rfl,rfl⟩:=hl;cases hv;refine⟨σ,_,w,?_,.gx (vs:=#[]) .nil,hr,.refl _ _ _⟩;simp only[Builtin.clear_,h0,h1,ne,aO hu,pp,m9]
 ·rename_i e id off n es cap hu
  cases hs:cy P e with
  | none=>simp[hs] at hl
  | some s=>
   cases hz:dm P e with
   | none=>simp[hs,hz] at hl
   | some z=>
    simp only[hs,hz,m7] at hl
    cases hv with
    | @slice _ _ _ _ _ a p c hp hlen hroom hcap haddr=>
     cases hn0:beq n 0
     ·rw[hn0,aw] at hl;have hn0:=iL hn0;obtain⟨hc,hl2⟩:=aF hl;clear hl;simp only[be] at hc;have e1:=cW hc.1;subst e1;have e2:=cW hc.2
      cases hst:h.store id off (rep z.cells n) with
      | none=>simp[hst] at hl2
      | some h9=>
       simp only[hst,m6,qr,m8] at hl2;obtain⟨rfl,rfl⟩:=hl2;have haddr:=haddr.resolve_right ii;subst haddr;obtain⟨zv,hzr,hzV,_⟩:=iX (w:=w) (σ:=σ) hz
       have hzs:zv.cells.size=s:=by have:=hzV.cells.1;simp at this;omega
       have hv1:VL σ (rep z.cells n) (Builtin.zeroCells zv.cells n).toList:=by
        by_cases hs0:s=0
        ·have hr0:(rep z.cells n).length=0:=by rw[gB,e2,hs0,Nat.mul_zero]
         refine⟨by simp[gB,Builtin.zeroCells,hzs,e2],?_⟩;intro i a' v' ha';rw[a9 ii] at ha';cases ha'
        ·have:=Ey hzV.cells ii n;rw[e2] at this;simpa only[Builtin.zeroCells,hzs] using this
       obtain⟨w',s1,s2,s3⟩:=hr.se (P:=P) hst hp hv1;refine⟨σ,_,w',?_,.gx (vs:=#[]) .nil,s2,s3⟩
       cases n with
       | zero=>exact ul rfl hn0
       | succ n=>
        simp only[Builtin.clear_,h0,h1,ne,aO hu,pp,hzr,s1,m9]
     ·rw[hn0,ar] at hl;have hn0:=cW hn0;subst hn0;simp only[qr,m8] at hl;obtain⟨rfl,rfl⟩:=hl;refine⟨σ,_,w,?_,.gx (vs:=#[]) .nil,hr,.refl _ _ _⟩;simp only[Builtin.clear_,h0,h1,ne,aO hu,pp,m9]
 ·simp at hl
def JE{P:Program}{σ:Sg}{h h':H}{w:World}(hr:HR σ h w){t:TypeId}{x r:AV}{v:Value}(hl:wG P h t x=some (r,h'))(hv:V σ x v):Yields P σ h h' w r (Instr.range t v):=by
 have fin:∀(o:AO) (ob:Obj),(∀cs f,o≠.cells cs f)->OR (up σ h.next ⟨w.heap.size,0,0⟩) o ⟨w.heap.size,0,0⟩ (some ob)->(Instr.range t v).run P w=.ok (.pointer (some ⟨w.heap.size,0,none⟩)) { w with heap:=w.heap.push ob }->
  (r,h')=(.ptr (some (h.next,0)),{ h with aU:=h.aU.put h.next (some o),next:=h.next+1 })->Yields P σ h h' w r (Instr.range t v):=by
  intro o ob hnc hor hrun he;simp only[m8] at he;obtain⟨rfl,rfl⟩:=he;obtain⟨k1,k2⟩:=hr.new (r:=0) (o:=o) (ob:=ob) (w':={ w with heap:=w.heap.push ob }) (λcs f hf=>ul hf (hnc cs f)) hor rfl rfl rfl rfl
  have he:({ h.lay h.next o with next:=h.next+1 }:H)={ h with aU:=h.aU.put h.next (some o),next:=h.next+1 }:=by
   unfold H.lay;split
   ·rename_i cs f;exact ul rfl (hnc cs f)
   ·rfl
  rw[he] at k1 k2;exact⟨_,_,_,hrun,.ptr (p:=⟨w.heap.size,0,0⟩) (eG _ _ _),k1,k2⟩
 unfold wG at hl;split at hl
 ·rename_i s hu
  cases hv with
  | @str _ bs hs=>
   refine fin (.L6 s 0) (.stringIter bs 0) gc ⟨bs,rfl,hs,rfl⟩ ?_ (by simpa [H.newObj] using hl.symm);simp only[Instr.range,ne,aO hu,pp,m9,run_newObj]
 ·rename_i hu;cases hv;refine fin (.jl none 0 [] 0) (.mapIter none 0 #[] 0) gc ⟨none,rfl,rfl,rfl⟩ ?_ (by simpa [H.newObj] using hl.symm);simp only[Instr.range,ne,aO hu,pp,m9,run_newObj]
 ·rename_i k e m hu
  cases hv with
  | @map _ p hp=>
   cases hm:h.mapOf m with
   | none=>simp[hm] at hl
   | some q=>
    obtain⟨es,c⟩:=q;obtain⟨_,es',g1,_⟩:=hr.map hm hp;refine fin (.jl (some m) c [] c) (.mapIter (some p.b) c #[] c) gc ⟨some p.b,rfl,rfl,p,pE (hr.fresh _ (ap _)) _ _ hp,rfl⟩ ?_ (by simpa [H.newObj,hm] using hl.symm);simp only[Instr.range,ne,aO hu,pp,cm g1 gc,m9,run_newObj]
 ·simp at hl
def AT(b:Nat):∀l:List Nat,seenIn b l=l.contains b
 | []=>rfl
 | x::l=>by
  simp only[seenIn,List.contains_cons,AT b l]
  congr 1
  cases h:beq x b
  ·have:=iL h;symm;simp;exact λe=>this e.symm
  ·have:=cW h;subst this;simp
def EL.filter{σ:Sg}{f:AV×AV×Nat->Bool}{g:MapEntry->Bool}(hfg:∀e m,ER σ e m->f e=g m):∀(es:List (AV×AV×Nat)) (l:List MapEntry),EL σ es l->EL σ (es.filter f) (l.filter g)
 | [],l,h=>by have:=h.nil;subst this;exact h
 | e::es,l,h=>by
  obtain⟨m,l',rfl,he,hl⟩:=h.cons;have ih:=EL.filter hfg es l' hl;simp only[b6,hfg e m he];cases g m
  ·exact ih
  ·exact EL.append (EL.one he) ih
def EL.all{σ:Sg}{f:AV×AV×Nat->Bool}{g:MapEntry->Bool}(hfg:∀e m,ER σ e m->f e=g m):∀(es:List (AV×AV×Nat)) (l:List MapEntry),EL σ es l->es.all f=l.all g
 | [],l,h=>by have:=h.nil;subst this;rfl
 | e::es,l,h=>by
  obtain⟨m,l',rfl,he,hl⟩:=h.cons;simp only[List.all_cons,hfg e m he,EL.all hfg es l' hl]
def EL.isEmpty{σ:Sg}{es:List (AV×AV×Nat)}{l:List MapEntry}(h:EL σ es l):es.isEmpty=l.isEmpty:=by
 have:=h.1;cases es<;>cases l<;>simp_all
def Ug{P:Program}{w:World}{n:Nat}(hn:0<n):∃k w',(choose (.mapNext n)).run P w=.ok k w'/\k<n/\w'.heap=w.heap/\w'.os=w.os/\w'.tape=w.tape/\w'.output=w.output:=by
 rw[run_choose];by_cases h:n<=1
 ·have:(Question.mapNext n).forced=true:=by simp[Question.forced,h]
  rw[un this];exact⟨0,w,rfl,hn,rfl,rfl,rfl,rfl⟩
 ·have:¬(Question.mapNext n).forced=true:=by simp[Question.forced];omega
  rw[ut this];exact⟨_,_,rfl,Nat.mod_lt _ hn,rfl,rfl,rfl,rfl⟩
def M3{P:Program}{σ:Sg}{h:H}{w:World}(hr:HR σ h w){x:AV}{v:Value}{isS:Bool}{T:TypeId}{outs:List (AV×H)}(hl:AE h x isS=some outs)(hv:V σ x v):
 ∃r h',(r,h')∈outs/\Yields P σ h h' w r (Instr.next v isS T):=by
 unfold AE at hl;split at hl
 ·rename_i id
  cases hv with
  | @ptr _ _ p hp=>
   split at hl
   ·rename_i since seen st ho;obtain⟨q,hq,m',g1,g0,g2⟩:=hr.obj id _ ho;rw[hp] at hq;cases hq;simp only at g2;subst g2;simp only[one,qr] at hl;subst hl;refine⟨_,_,rt rfl,σ,.tuple #[.bool false],w,?_,.gx (.cons (.bool _) .nil),hr,.refl _ _ _⟩;rw[g0];simp only[Instr.next,b5,ne,cm g1 gc,pp,m9]
   ·rename_i m since seen last ho;obtain⟨q,hq,m',g1,g0,g2⟩:=hr.obj id _ ho;rw[hp] at hq;cases hq;simp only at g2;obtain⟨pm,hpm,rfl⟩:=g2
    cases hm:h.mapOf m with
    | none=>simp[hm] at hl
    | some q=>
     obtain⟨es,clock⟩:=q;simp only[hm,m7] at hl;obtain⟨hom,es',k1,k2⟩:=hr.map hm hpm;cases hgone:(!seen.isEmpty&&(!es.isEmpty&&es.all (λe=>ble last e.2.2)))
     ·rw[hgone,aw] at hl;simp only[qr] at hl;subst hl
      have hgone':(!seen.toArray.isEmpty&&!es'.isEmpty&&es'.all (λe=>decide (e.born≥last)))=false:=by
       have e1:seen.toArray.isEmpty=seen.isEmpty:=by simp
       have e2:es'.isEmpty=es.isEmpty:=by rw[k2.isEmpty];simp
       have e3:es'.all (λe=>decide (e.born≥last))=es.all (λe=>ble last e.2.2):=by
        rw[<-Array.all_toList,k2.all (g:=λe=>decide (e.born≥last))];intro e mm he;rw[he.2.2];cases hb:ble last mm.born
        ·have:=yn hb;symm;simp;omega
        ·have:=jy hb;symm;simp;omega
       rw[e1,e2,e3,Bool.and_assoc];exact hgone
      have hleft:EL σ (es.filter λe=>!(seenIn e.2.2 seen)) (es'.toList.filter λe=>!(seen.toArray.contains e.born)):=
       EL.filter (λe mm he=>by rw[AT,he.2.2];simp) _ _ k2
      have hlt:∀(e:AV×AV×Nat) (mm:MapEntry),ER σ e mm->blt e.2.2 since=decide (mm.born<since):=by
       intro e mm he;rw[he.2.2];cases hb:blt mm.born since
       ·have:=KU hb;symm;simp;omega
       ·have:=gp hb;symm;simp;omega
      have hold:EL σ ((es.filter λe=>!(seenIn e.2.2 seen)).filter λe=>blt e.2.2 since) ((es'.toList.filter λe=>!(seen.toArray.contains e.born)).filter λe=>decide (e.born<since)):=
       EL.filter hlt _ _ hleft
      have hnew:EL σ ((es.filter λe=>!(seenIn e.2.2 seen)).filter λe=>!(blt e.2.2 since)) ((es'.toList.filter λe=>!(seen.toArray.contains e.born)).filter λe=>decide (e.born≥since)):=
       EL.filter (λe mm he=>by rw[hlt e mm he];by_cases hx:mm.born<since<;>simp[hx]<;>omega) _ _ hleft
      generalize ((es.filter λe=>!(seenIn e.2.2 seen)).filter λe=>blt e.2.2 since)=Oa at hold ⊢;generalize ((es.filter λe=>!(seenIn e.2.2 seen)).filter λe=>!(blt e.2.2 since))=Na at hnew ⊢
      have hcand:((if ((es'.filter λe=>!(seen.toArray.contains e.born)).filter λe=>decide (e.born<since)).isEmpty then #[none] else #[])++
       (((es'.filter λe=>!(seen.toArray.contains e.born)).filter λe=>decide (e.born<since))++((es'.filter λe=>!(seen.toArray.contains e.born)).filter λe=>decide (e.born≥since))).map some:Array (Option MapEntry)).toList=
       (if ((es'.toList.filter λe=>!(seen.toArray.contains e.born)).filter λe=>decide (e.born<since)).isEmpty then [none] else [])++
       (((es'.toList.filter λe=>!(seen.toArray.contains e.born)).filter λe=>decide (e.born<since))++((es'.toList.filter λe=>!(seen.toArray.contains e.born)).filter λe=>decide (e.born≥since))).map some:=by
       have e1:((es'.filter λe=>!(seen.toArray.contains e.born)).filter λe=>decide (e.born<since)).toList=(es'.toList.filter λe=>!(seen.toArray.contains e.born)).filter λe=>decide (e.born<since):=by
        simp only[el]
       have e2:((es'.filter λe=>!(seen.toArray.contains e.born)).filter λe=>decide (e.born≥since)).toList=(es'.toList.filter λe=>!(seen.toArray.contains e.born)).filter λe=>decide (e.born≥since):=by
        simp only[el]
       have e3:((es'.filter λe=>!(seen.toArray.contains e.born)).filter λe=>decide (e.born<since)).isEmpty=((es'.toList.filter λe=>!(seen.toArray.contains e.born)).filter λe=>decide (e.born<since)).isEmpty:=by
        rw[<-e1,Array.isEmpty_toList]
       rw[bc,bi,bc,e1,e2,e3];split<;>rfl
      revert hcand
      generalize hC:((if ((es'.filter λe=>!(seen.toArray.contains e.born)).filter λe=>decide (e.born<since)).isEmpty then #[none] else #[])++
       (((es'.filter λe=>!(seen.toArray.contains e.born)).filter λe=>decide (e.born<since))++((es'.filter λe=>!(seen.toArray.contains e.born)).filter λe=>decide (e.born≥since))).map some:Array (Option MapEntry))=C
      intro hcand;generalize ((es'.toList.filter λe=>!(seen.toArray.contains e.born)).filter λe=>decide (e.born<since))=O' at hold hcand;generalize ((es'.toList.filter λe=>!(seen.toArray.contains e.born)).filter λe=>decide (e.born≥since))=N' at hnew hcand;have hON:=hold.append hnew
      have hpos:0<C.size:=by
       rw[<-b7,hcand];cases O'<;>simp
      obtain⟨k,w1,hk,hkn,hw1,e1,e2,e3⟩:=Ug (P:=P) (w:=w) hpos
      have hrun:∀c,C[k]?=some c->(Instr.next (.pointer (some ⟨p.b,p.d+0,none⟩)) false T).run P w=(match c with
       | some e=>((setObj p.b (.mapIter (some pm.b) since (seen.toArray.push e.born) clock)).run P w1).andThen λ_ w2=>.ok (.tuple #[.bool true,e.key,e.val]) w2
       | none=>.ok (.tuple #[.bool false]) w1):=by
       intro c hc;rw[g0];simp only[Instr.next,b5,ne,cm g1 gc,pp,cm k1 gc,hgone',aY,if_false];simp only[hC,hk,pp,hc]
       cases c with
       | none=>rfl
       | some e=>simp only[ne,m9]
      have hCk:C[k]?=C.toList[k]?:=by simp
      rw[hcand] at hCk
      have hgo:∀(j:Nat),(∀mm,(O'++N')[j]?=some mm->C[k]?=some (some mm))->j<(O'++N').length->
       (∀e,(Oa++Na)[j]?=some e->((.cq [.bool true,e.1,e.2.1],h.set id (.jl (some m) since (seen++[e.2.2]) clock)):AV×H)∈qM h id m since seen clock Oa Na)->
       ∃r h',(r,h')∈qM h id m since seen clock Oa Na/\Yields P σ h h' w r (Instr.next (.pointer (some ⟨p.b,p.d+0,none⟩)) false T):=by
       intro j h1 hj h2
       have hja:j<(Oa++Na).length:=by have:=hON.1;omega
       have he:=jp hja;obtain⟨mm,hm1,hm2⟩:=hON.get he;have hr1:=hr.congr hw1
       have ho1:w1.heap[p.b]?=some (.mapIter (some pm.b) since seen.toArray last):=by rw[hw1];exact g1
       obtain⟨s1,s2⟩:=hr1.kh (o':=.jl (some m) since (seen++[(Oa++Na)[j].2.2]) clock) (ob:=.mapIter (some pm.b) since (seen.toArray.push mm.born) clock) ho rfl rfl hp
        ⟨some pm.b,by rw[hm2.2.2];simp,g0,pm,hpm,rfl⟩
       refine⟨_,_,h2 _ he,σ,.tuple #[.bool true,mm.key,mm.val],_,?_,.gx (.cons (.bool _) (.cons hm2.1 (.cons hm2.2.1 .nil))),s1,(Ext.of_eq hw1 e1 e2 e3).trans s2⟩;rw[hrun _ (h1 mm hm1)];simp only[ez ho1 gc,pp]
      cases hO:O'.isEmpty
      ·have hOa:Oa.isEmpty=false:=by rw[hold.isEmpty];exact hO
       rw[hO] at hCk;simp only[aY,if_false,d6,bb] at hCk
       have hkl:k<(O'++N').length:=by
        have:=hkn;rw[<-b7,hcand,hO] at this;simpa using this
       refine hgo k (λmm hmm=>by rw[hCk,hmm];rfl) hkl ?_;intro e he;simp only[qM,hOa,aw,d6];exact mem_map.2 ⟨e,cc he,rfl⟩
      ·have hOa:Oa.isEmpty=true:=by rw[hold.isEmpty];exact hO
       rw[hO] at hCk;simp only[if_true] at hCk
       cases k with
       | zero=>
        simp only[c4,ax] at hCk;refine⟨.cq [.bool false],h,?_,σ,.tuple #[.bool false],w1,?_,.gx (.cons (.bool _) .nil),hr.congr hw1,.of_eq hw1 e1 e2 e3⟩
        ·simp[qM,hOa]
        ·rw[hrun _ hCk]
       | succ k=>
        simp only[c4,ac,bb] at hCk
        have hkl:k<(O'++N').length:=by
         have:=hkn;rw[<-b7,hcand,hO] at this;simp at this;simp;omega
        refine hgo k (λmm hmm=>by rw[hCk,hmm];rfl) hkl ?_;intro e he;simp only[qM];exact cb _ (mem_map.2 ⟨e,cc he,rfl⟩)
     ·simp[hgone] at hl
   ·simp at hl
 ·simp at hl
def RB{b i:Nat}{σ:Sg}{es:List (AV×AV×Nat)}{l:Array MapEntry}(h:EL σ es l.toList)(hb:kK b es 0=some i):∃e m,es[i]?=some e/\l.find? (λe=>e.born==b)=some m/\ER σ e m:=by
 obtain⟨h1,h2,⟨x,h3,h4⟩,h5⟩:=sV es 0 i hb;obtain⟨m,hm1,hm2⟩:=h.get (i:=i) (by simpa using h3);refine⟨x,m,by simpa using h3,?_,hm2⟩
 have hi:i<l.size:=by have:=kU hm1;simpa using this
 have hm1':l[i]=m:=by
  have:l[i]?=some m:=by simpa using hm1
  rw[bt hi] at this;simpa using this
 rw[Array.find?_eq_some_iff_getElem];refine⟨by have:=hm2.2.2;simp;omega,i,hi,hm1',?_⟩;intro j hj
 have hjl:j<es.length:=by have:=h.1;simp at this;omega
 have:=h5 j ii _ (jp hjl);have hr:=(h.2 j _ (l[j]' ii) (jp hjl) gc).2.2;simp;omega
def I2{P:Program}{σ:Sg}{h:H}{w:World}(hr:HR σ h w){x r:AV}{v:Value}(hl:vN h x=some r)(hv:V σ x v):∃z,(Instr.entry v).run P w=.ok z w/\V σ r z:=by
 unfold vN at hl;split at hl
 ·rename_i id
  cases hv with
  | @ptr _ _ p hp=>
   split at hl
   ·rename_i m since seen st ho;obtain⟨q,hq,m',g1,g0,g2⟩:=hr.obj id _ ho;rw[hp] at hq;cases hq;simp only at g2;obtain⟨pm,hpm,rfl⟩:=g2;split at hl
    ·rename_i stamp hst
     cases hm:h.mapOf m with
     | none=>simp[hm] at hl
     | some q=>
      obtain⟨es,c⟩:=q;simp only[hm,m7] at hl;obtain⟨_,es',k1,k2⟩:=hr.map hm hpm;obtain⟨hc,hl2⟩:=aF hl;have hc:=cW hc;subst hc
      cases hb:kK stamp es 0 with
      | none=>simp[hb] at hl2
      | some i=>
       simp only[hb,m7] at hl2;obtain⟨e,mm,f1,f2,f3⟩:=RB k2 hb;simp only[f1,m6,qr] at hl2;subst hl2;refine⟨.tuple #[mm.key,mm.val],?_,.gx (.cons f3.1 (.cons f3.2.1 .nil))⟩
       have hback:seen.toArray.back?=some stamp:=by simpa using hst
       rw[g0];simp only[Instr.entry,b5,ne,cm g1 gc,pp,hback,cm k1 gc,bne_self_eq_false,aY,if_false,f2,m9]
    ·simp at hl
   ·simp at hl
 ·simp at hl
def xb{P:Program}{t:TypeId}{name:String}{f:FuncId}(h:jw P t name=some f):∃(i:TypeInfo) (m:Method) (d:TypeDesc),P.info? t=some i/\i.methods.find? (·.name==name)=some m/\m.path.isEmpty=true/\m.func=some (f,false)/\P.underlying t=some d/\(∀e,d≠.pointer e):=by
 unfold jw at h
 cases hi:P.info? t with
 | none=>simp[hi] at h
 | some i=>
  simp only[hi,m7] at h
  cases hm:i.methods.find? (·.name==name) with
  | none=>simp[hm] at h
  | some m=>
   simp only[hm,m7] at h;split at h
   ·rename_i g hp hf;split at h
    all_goals first
     | (rename_i hu;simp only[qr] at h;subst h;exact⟨i,m,_,rfl,hm,hp,hf,hu,by simp⟩)
     | simp at h
   ·simp at h
def BI{P:Program}{σ:Sg}{w:World}{ρ:Operand->Value}{X:Operand}{x r:AV}{o:Oper}(h:pj P x=some r)(hv:V σ x (ρ X))(ho:o.op=.nilCheck X):
 ∃z,(execOp ρ o).run P w=.ok (.value z) w/\V σ r z:=by
 unfold pj at h;split at h
 ·simp only[qr] at h;subst h;generalize hg:ρ X=v at hv
  cases hv with
  | ptr hp=>exact⟨_,by simp only[execOp,ho,hg,m9],.ptr hp⟩
 ·simp only[qr] at h;subst h;generalize hg:ρ X=v at hv;have hv':=hv
  cases hv with
  | fn hf h1 h2 h3 h4=>exact⟨_,by simp only[execOp,ho,hg,m9],hv'⟩
 ·rename_i name t a cap
  cases hm:jw P t name with
  | none=>simp[hm] at h
  | some f=>
   simp only[hm,m6,qr] at h;subst h;obtain⟨i,m,d,hi,hf,hp,hfu,hu,hd⟩:=xb hm;generalize hg:ρ X=v at hv;have hv':=hv
   cases hv with
   | @fn _ _ _ fs' cs' hfy h1 h2 h3 h4=>
    have hsz:fs'.size=1:=by simpa using h1.symm
    have h00:fs'[0]?=some (fs'[0]' ii):=bt _;have hV0:=h2 0 _ _ rfl h00;generalize fs'[0]' ii=v0 at hV0 h00
    cases hV0 with
    | @iface _ _ vv hva=>
     refine⟨_,?_,hv'⟩;simp only[execOp,ho,hg,h00,ne,run_program,pp]
     have hna:(nilAhead (P.types.size+Made.depth) t vv name).run P w=.ok (some false) w:=by
      rw[show P.types.size+Made.depth=(P.types.size+99)+1 from rfl];generalize P.types.size+99=kk
      have hpath:m.path.toList=[]:=by
       have:=hp;simpa using this
      simp only[nilAhead,ne,c9 hi,pp,hf,hpath,followBlind,m9,hfu,aO hu]
      cases d<;>first
       | rfl
       | exact ul rfl (hd _)
     simp only[hna,pp];rfl
 ·simp only[qr] at h;subst h;generalize hg:ρ X=v at hv;have hv':=hv
  cases hv with
  | iF hl=>exact⟨_,by simp only[execOp,ho,hg,m9],hv'⟩
  | slice=>exact⟨_,by simp only[execOp,ho,hg,m9],hv'⟩
 ·simp at h
def WY(σ:Sg)(r:Option AV)(x:Next):Prop:=match r with
 | some a=>∃v,x=.value v/\V σ a v
 | none=>x=.skip
def xQ(P:Program)(σ:Sg)(h h':H)(w:World)(r:Option AV)(s:Sem Next):Prop:=
 ∃σ' x w',s.run P w=.ok x w'/\WY σ' r x/\HR σ' h' w'/\Ext σ σ' h h' w w'
def xQ.pure{P:Program}{σ:Sg}{h:H}{w:World}(hr:HR σ h w){a:AV}{s:Sem Value}(hs:∃z,s.run P w=.ok z w/\V σ a z):xQ P σ h h w (some a) (do Pure.pure (Next.value (<-s))):=by
 obtain⟨z,h1,h2⟩:=hs;exact⟨σ,.value z,w,by simp only[ne,h1,pp,m9],⟨z,rfl,h2⟩,hr,.refl _ _ _⟩
def xQ.yield{P:Program}{σ:Sg}{h h':H}{w:World}{a:AV}{s:Sem Value}(hs:Yields P σ h h' w a s):xQ P σ h h' w (some a) (do Pure.pure (Next.value (<-s))):=by
 obtain⟨σ',z,w',h1,h2,h3,h4⟩:=hs;exact⟨σ',.value z,w',by simp only[ne,h1,pp,m9],⟨z,rfl,h2⟩,h3,h4⟩
def xQ.unit{P:Program}{σ:Sg}{h h':H}{w:World}{s:Sem Unit}(hs:∃w',s.run P w=.ok () w'/\HR σ h' w'/\Ext σ σ h h' w w'):xQ P σ h h' w none (do s;Pure.pure Next.skip):=by
 obtain⟨w',h1,h2,h3⟩:=hs;exact⟨σ,.skip,w',by simp only[ne,h1,pp,m9],rfl,h2,h3⟩
def MX{α β:Type}{r:Option α}{f:α->β}{outs:List β}(h:r.map (λx=>[f x])=some outs):∃a,r=some a/\outs=[f a]:=by
 cases r with
 | none=>simp at h
 | some a=>simp at h;exact⟨a,rfl,h.symm⟩
def mW{α β:Type}{r:Option α}{f:α->Option β}{y:β}(h:r.bind f=some y):∃a,r=some a/\f a=some y:=by
 cases r with
 | none=>simp at h
 | some a=>exact⟨a,rfl,h⟩
def au{α β:Type}{r:Option α}{f:α->β}{y:β}(h:r.map f=some y):∃a,r=some a/\f a=y:=by
 cases r with
 | none=>simp at h
 | some a=>simp at h;exact⟨a,rfl,h⟩
def IL{P:Program}{σ:Sg}{h:H}{w:World}{t:Tr AV}{ρ:Operand->Value}(hρ:∀x a,ev t x=some a->V σ a (ρ x))(hr:HR σ h w){o:Oper}{id:Nat}{a:AV}{ob:AO}(hl:pK P t o.op id=some (a,ob))
 (hid:σ id=none) (hlt:id<h.next) (hlow:h.low<=id) (hf:∀j cs,h.aU.get j≠some (.cells cs id)):
 ∃σ' v w',(execOp ρ o).run P w=.ok (.value v) w'/\V σ' a v/\HR σ' (h.lay id ob) w'/\Ext σ σ' { h with next:=id } (h.lay id ob) w w'/\(∃q,w.heap.size<=q.b/\σ'=up σ id q):=by
 have row:∀(aS:List AV) (c:Array Value) (e:TypeId) (v:Value),ob=.cells aS id->VL σ aS c.toList->(execOp ρ o).run P w=.ok (.value v) { w with heap:=w.heap.push (.cells c e (0,0)) }->
  (∀σ':Sg,σ' id=some ⟨w.heap.size,0,c.size⟩->V σ' a v)->∃σ' v w',(execOp ρ o).run P w=.ok (.value v) w'/\V σ' a v/\HR σ' (h.lay id ob) w'/\Ext σ σ' { h with next:=id } (h.lay id ob) w w'/\(∃q,w.heap.size<=q.b/\σ'=up σ id q):=by
  intro aS c e v e1 hvl hrun hV;subst e1
  obtain⟨k1,k2⟩:=hr.lay (r:=c.size) (o:=.cells aS id) (ob:=.cells c e (0,0)) (w':={ w with heap:=w.heap.push (.cells c e (0,0)) }) hid hlt hlow hf (λcs f hh=>by cases hh;rfl)
   (IJ (hvl.mono (pE hid)) (b8 (ap _))) rfl rfl rfl rfl
  exact⟨_,v,_,hrun,hV _ (eG _ _ _),k1,k2,_,ap _,rfl⟩
 have mp:ob=.map [] 0->a=.map (some id)->(execOp ρ o).run P w=.ok (.value (.map (some w.heap.size))) { w with heap:=w.heap.push (.map #[] 0) }->
  ∃σ' v w',(execOp ρ o).run P w=.ok (.value v) w'/\V σ' a v/\HR σ' (h.lay id ob) w'/\Ext σ σ' { h with next:=id } (h.lay id ob) w w'/\(∃q,w.heap.size<=q.b/\σ'=up σ id q):=by
  intro e1 e2 hrun;subst e1;subst e2
  obtain⟨k1,k2⟩:=hr.lay (r:=0) (o:=.map [] 0) (ob:=.map #[] 0) (w':={ w with heap:=w.heap.push (.map #[] 0) }) hid hlt hlow hf (λcs f hh=>by cases hh)
   ⟨#[],rfl,rfl,λi e m he _=>by simp at he⟩ rfl rfl rfl rfl
  exact⟨_,_,_,hrun,.map (p:=⟨w.heap.size,0,0⟩) (eG _ _ _),k1,k2,_,ap _,rfl⟩
 unfold pK at hl;split at hl
 ·rename_i e ho;obtain⟨z,hz,he⟩:=au hl;simp only[m8] at he;obtain⟨rfl,rfl⟩:=he;obtain⟨zv,hzr,hzV,_⟩:=iX (w:=w) (σ:=σ) hz;refine row _ zv.cells e _ rfl hzV.cells ?_ (λσ' hs=>.ptr (p:=⟨w.heap.size,0,zv.cells.size⟩) hs);simp only[execOp,ho,Instr.alloc,ne,hzr,pp,newVar,newRow,run_newObj,m9]
 ·rename_i e x ho;obtain⟨y,hy,he⟩:=au hl;simp only[m8] at he;obtain⟨rfl,rfl⟩:=he;have hV:=hρ _ _ hy;refine row _ (ρ x).cells e _ rfl hV.cells ?_ (λσ' hs=>.ptr (p:=⟨w.heap.size,0,(ρ x).cells.size⟩) hs);simp only[execOp,ho,Instr.box,ne,pp,newVar,newRow,run_newObj,m9]
 ·rename_i tt n ps ho;obtain⟨qs,hq,hl⟩:=mW hl;obtain⟨⟨s,cs⟩,hb,he⟩:=au hl;simp only[m8] at he;obtain⟨rfl,rfl⟩:=he;have hpr:=wB hρ ps.toList qs hq
  have hpr':PL σ qs (ps.map λ(i,x)=>(i,ρ x)).toList:=by simpa using hpr
  obtain⟨c,e,g1,g2,g3⟩:=xT (w:=w) hb hpr';refine row _ c e _ rfl g2 ?_ (λσ' hs=>.slice (p:=⟨w.heap.size,0,c.size⟩) hs (ap _) (by have:=g2.1;simp at this;simp only;omega) (λx hx=>by simpa using hx.symm) (.inl rfl));simp only[execOp,ho,ne,g1,pp,m9]
 ·rename_i tt r ho;split at hl
  ·simp only[qr,m8] at hl;obtain⟨rfl,rfl⟩:=hl;refine mp rfl rfl ?_;simp only[execOp,ho,Option.map_none,Instr.makeMap,ne,m9,pp,run_newObj]
  ·rename_i x;split at hl
   ·rename_i k n q hx hm;simp only[qr,m8] at hl;obtain⟨rfl,rfl⟩:=hl;obtain⟨kt,et⟩:=q;refine mp rfl rfl ?_;have hV:=hρ _ _ hx;generalize hg:ρ x=v at hV;cases hV;simp only[execOp,ho,m6,hg,Instr.makeMap,ne,aO (lK hm),asInt,asIntOf,m9,pp,run_newObj]
   ·simp at hl
 ·rename_i tt l c ho;obtain⟨l',hl',hl⟩:=mW hl;obtain⟨c',hc',hl⟩:=mW hl;obtain⟨⟨n,s,m,cs⟩,hb,he⟩:=au hl;simp only[m8] at he;obtain⟨rfl,rfl⟩:=he;obtain⟨arr,e,g1,g2,g3,g4⟩:=Az (w:=w) hb (hρ _ _ hl') (hρ _ _ hc');refine row _ arr e _ rfl g2 ?_ (λσ' hs=>.slice (p:=⟨w.heap.size,0,arr.size⟩) hs g3 (by have:=g2.1;simp at this;simp only;omega) (λx hx=>by simpa using hx.symm) (.inl rfl));simp only[execOp,ho,ne,g1,pp,m9]
 ·simp at hl
def DE{P:Program}{σ:Sg}{h h':H}{w:World}(hr:HR σ h w){b:Builtin}{ats:Array TypeId}{T:TypeId}{cn:Array Bool}{aS:List AV}{args:Array Value}{r:AV}(hl:mY P h b ats.toList aS=some (r,h'))
 (hv:VL σ aS args.toList):xQ P σ h h' w (some r) (builtin b ats T cn args):=by
 have at0:∀{t:TypeId} {l:List TypeId},ats.toList=t::l->ats[0]?=some t:=λe=>by rw[<-aa,e];rfl
 have at1:∀{t s:TypeId} {l:List TypeId},ats.toList=t::s::l->ats[1]?=some s:=λe=>by rw[<-aa,e];rfl
 have ar0:∀{v:Value} {l:List Value},args.toList=v::l->args[0]?=some v:=λe=>by rw[<-aa,e];rfl
 have ar1:∀{v u:Value} {l:List Value},args.toList=v::u::l->args[1]?=some u:=λe=>by rw[<-aa,e];rfl
 unfold mY at hl;split at hl
 ·rename_i st xt _ x y hats;obtain⟨v,l,e1,hV,hl1⟩:=hv.dI;obtain⟨u,l2,e2,hU,_⟩:=hl1.dI;subst e2;exact .yield (FM hr hl (at0 hats) (at1 hats) (ar0 e1) (ar1 e1) hV hU)
 ·rename_i t _ x _ hats;obtain⟨v,l,e1,hV,_⟩:=hv.dI;obtain⟨q,hq,he⟩:=au hl;simp only[m8] at he;obtain⟨rfl,rfl⟩:=he;exact .pure hr (Po hr hq (at0 hats) (ar0 e1) hV)
 ·rename_i t _ o n es c hats;obtain⟨v,l,e1,hV,_⟩:=hv.dI;split at hl
  ·rename_i e hu;simp only[qr,m8] at hl;obtain⟨rfl,rfl⟩:=hl;have a0:=ar0 e1;refine .pure hr ⟨goInt c,?_,.int _ _⟩
   cases hV with
   | iF h0=>simp only[Builtin.cap_,at0 hats,a0,ne,aO hu,pp,m9]
   | slice hp hl hroom hcap haddr=>
    have:=hcap c rfl;subst this;simp only[Builtin.cap_,at0 hats,a0,ne,aO hu,pp,m9]
  ·simp at hl
 ·rename_i dt _ x y _ hats;obtain⟨v,l,e1,hV,hl1⟩:=hv.dI;obtain⟨u,l2,e2,hU,_⟩:=hl1.dI;subst e2;exact .yield (My hr hl (at0 hats) (ar0 e1) (ar1 e1) hV hU)
 ·rename_i x l;obtain⟨v,us,e1,hV,hus⟩:=hv.dI;obtain⟨q,hq,he⟩:=au hl;simp only[m8] at he;obtain⟨rfl,rfl⟩:=he;obtain⟨z,hz,hZ⟩:=qU (P:=P) (w:=w) false l x q v us hq hV hus;exact .pure hr ⟨z,by simp only[Builtin.min_,e1];exact hz,hZ⟩
 ·rename_i x l;obtain⟨v,us,e1,hV,hus⟩:=hv.dI;obtain⟨q,hq,he⟩:=au hl;simp only[m8] at he;obtain⟨rfl,rfl⟩:=he;obtain⟨z,hz,hZ⟩:=qU (P:=P) (w:=w) true l x q v us hq hV hus;exact .pure hr ⟨z,by simp only[Builtin.max_,e1];exact hz,hZ⟩
 ·rename_i t _ x k _ hats;obtain⟨v,l,e1,hV,hl1⟩:=hv.dI;obtain⟨u,l2,e2,hU,_⟩:=hl1.dI;subst e2;exact .yield (Gb hr hl (at0 hats) (ar0 e1) (ar1 e1) hV hU)
 ·rename_i t _ x _ hats;obtain⟨v,l,e1,hV,_⟩:=hv.dI;exact .yield (IX hr hl (at0 hats) (ar0 e1) hV)
 ·simp at hl
def Si{P:Program}{σ:Sg}{h:H}{w:World}{t:Tr AV}{ρ:Operand->Value}(hρ:∀x a,ev t x=some a->V σ a (ρ x))(hr:HR σ h w){o:Oper}{outs:List (Option AV×H)}(hl:eH P t h o.op=some outs):
 ∃r h',(r,h')∈outs/\xQ P σ h h' w r (execOp ρ o):=by
 have pv:∀(q:Option AV) (s:Sem Value),q.map (λx=>[(some x,h)])=some outs->(∀a,q=some a->∃z,s.run P w=.ok z w/\V σ a z)->execOp ρ o=(do Pure.pure (Next.value (<-s)))->∃r h',(r,h')∈outs/\xQ P σ h h' w r (execOp ρ o):=by
  intro q s hq hs he;obtain⟨a,ha,rfl⟩:=MX hq;exact⟨_,_,rt rfl,he▸.pure hr (hs a ha)⟩
 have pvh:∀(q:Option (AV×H)) (s:Sem Value),q.map (λx=>[(some x.1,x.2)])=some outs->(∀a h',q=some (a,h')->Yields P σ h h' w a s)->execOp ρ o=(do Pure.pure (Next.value (<-s)))->∃r h',(r,h')∈outs/\xQ P σ h h' w r (execOp ρ o):=by
  intro q s hq hs he;obtain⟨⟨a,h'⟩,ha,rfl⟩:=MX hq;exact⟨_,_,rt rfl,he▸.yield (hs a h' ha)⟩
 have pu:∀(q:Option H) (s:Sem Unit),q.map (λx=>[((none:Option AV),x)])=some outs->(∀h',q=some h'->∃w',s.run P w=.ok () w'/\HR σ h' w'/\Ext σ σ h h' w w')->execOp ρ o=(do s;Pure.pure Next.skip)->∃r h',(r,h')∈outs/\xQ P σ h h' w r (execOp ρ o):=by
  intro q s hq hs he;obtain⟨h',ha,rfl⟩:=MX hq;exact⟨_,_,rt rfl,he▸.unit (hs h' ha)⟩
 have al:∀q:Option (AV×H),q.map (λx=>[(some x.1,x.2)])=some outs->q=(pK P t o.op h.next).map (λ(v,ob)=>(v,({ h.lay h.next ob with next:=h.next+1 }:H)))->∃r h',(r,h')∈outs/\xQ P σ h h' w r (execOp ρ o):=by
  intro q hq he;obtain⟨⟨a,h'⟩,ha,rfl⟩:=MX hq;rw[he] at ha;obtain⟨⟨v,ob⟩,hv,hx⟩:=au ha;simp only[m8] at hx;obtain⟨rfl,rfl⟩:=hx;obtain⟨σ',z,w',k1,k2,k3,k4,_⟩:=IL hρ (hr.more (h.next+1) ii) (id:=h.next) hv (hr.fresh _ (ap _)) gc hr.D7 (λj cs hj=>by have:=(hr.bQ j cs _ hj).1;omega);rw[<-GK] at k3 k4;exact⟨_,_,rt rfl,σ',.value z,w',k1,⟨z,rfl,k2⟩,k3,k4.more ii⟩
 have lR:∀{α β:Type} {q:Option α} {f:α->Option β} {y:β},q.bind f=some y->∃a,q=some a/\f a=some y:=λh=>mW h
 cases ho:o.op with
 | move x=>
  rw[ho] at hl;simp only[eH] at hl;exact pv _ (Pure.pure (ρ x)) hl (λa ha=>⟨_,rfl,hρ _ _ ha⟩) (by simp only[execOp,ho];rfl)
 | assign x=>
  rw[ho] at hl;simp only[eH] at hl;exact pv _ (Pure.pure (ρ x)) hl (λa ha=>⟨_,rfl,hρ _ _ ha⟩) (by simp only[execOp,ho];rfl)
 | pick c a b=>
  rw[ho] at hl;simp only[eH] at hl;obtain⟨a',ha,hl⟩:=lR hl;obtain⟨b',hb,hl⟩:=lR hl;split at hl
  ·rename_i hc;have hcV:=hρ _ _ hc;generalize hg:ρ c=v at hcV;cases hcV;exact pv _ (do Pure.pure (if <-asBool (ρ c) then ρ a else ρ b)) hl (λx hx=>⟨ρ a,by simp[hg,asBool],by simp only[qr] at hx;subst hx;exact hρ _ _ ha⟩) (by simp only[execOp,ho,bind_assoc,pure_bind])
  ·rename_i hc;have hcV:=hρ _ _ hc;generalize hg:ρ c=v at hcV;cases hcV;exact pv _ (do Pure.pure (if <-asBool (ρ c) then ρ a else ρ b)) hl (λx hx=>⟨ρ b,by simp[hg,asBool],by simp only[qr] at hx;subst hx;exact hρ _ _ hb⟩) (by simp only[execOp,ho,bind_assoc,pure_bind])
  ·simp at hl
 | alloc e=>rw[ho] at hl;simp only[eH] at hl;exact al _ hl (by rw[ho])
 | box e x=>rw[ho] at hl;simp only[eH] at hl;exact al _ hl (by rw[ho])
 | buildSlice tt n ps=>rw[ho] at hl;simp only[eH] at hl;exact al _ hl (by rw[ho])
 | makeMap tt r=>rw[ho] at hl;simp only[eH] at hl;exact al _ hl (by rw[ho])
 | makeSlice tt l c=>rw[ho] at hl;simp only[eH] at hl;exact al _ hl (by rw[ho])
 | build tt ps=>
  rw[ho] at hl;simp only[eH] at hl;refine pv _ (Instr.build tt (ps.map λ(i,x)=>(i,ρ x))) hl (λa ha=>?_) (by simp only[execOp,ho]);obtain⟨qs,hq,hb⟩:=lR ha;exact IS hb (by simpa using wB hρ ps.toList qs hq)
 | load tt a=>
  rw[ho] at hl;simp only[eH] at hl;split at hl
  ·rename_i id off ha;have hV:=hρ _ _ ha;generalize hg:ρ a=v at hV
   cases hV with
   | ptr hp=>
    refine pv _ (Instr.loadAt tt (ρ a)) hl (λr hr'=>?_) (by simp only[execOp,ho]);obtain⟨z,h1,h2⟩:=hr.GP (P:=P) hr' hp;exact⟨z,by simp only[Instr.loadAt,hg,Instr.sureAddr,ne,m9,pp];exact h1,h2⟩
  ·simp at hl
 | store tt a x=>
  rw[ho] at hl;simp only[eH] at hl;split at hl
  ·rename_i id off y ha hx;have hV:=hρ _ _ ha;generalize hg:ρ a=v at hV
   cases hV with
   | ptr hp=>
    refine pu _ (Instr.storeAt tt (ρ a) (ρ x)) hl (λh' hh=>?_) (by simp only[execOp,ho]);obtain⟨w',h1,h2,h3⟩:=hr.EG (P:=P) hh hp (hρ _ _ hx);exact⟨w',by simp only[Instr.storeAt,hg,Instr.sureAddr,ne,m9,pp];exact h1,h2,h3⟩
  ·simp at hl
 | nilCheck x=>
  rw[ho] at hl;simp only[eH] at hl;obtain⟨a,ha,rfl⟩:=MX hl;obtain⟨y,hy,hn⟩:=lR ha;obtain⟨z,h1,h2⟩:=BI (P:=P) (w:=w) (ρ:=ρ) (o:=o) hn (hρ _ _ hy) ho;exact⟨_,_,rt rfl,σ,_,w,h1,⟨z,rfl,h2⟩,hr,.refl _ _ _⟩
 | binOp op xt x y yt=>
  rw[ho] at hl;simp only[eH] at hl;refine pv _ (do eqGuard op xt x y (ρ x) (ρ y);binOp op xt (ρ x) (ρ y)) hl (λa ha=>?_) (by simp only[execOp,ho]);obtain⟨x',hx,ha⟩:=lR ha;obtain⟨y',hy,ha⟩:=lR ha;obtain⟨z,h1,h2⟩:=On (P:=P) (w:=w) ha (hρ _ _ hx) (hρ _ _ hy);exact⟨z,by simp only[ne,Ge ha (hρ _ _ hx) (hρ _ _ hy),pp];exact h1,h2⟩
 | unOp op tt x=>
  rw[ho] at hl;simp only[eH] at hl;refine pv _ (Op.unary op (ρ x)) hl (λa ha=>?_) (by simp only[execOp,ho]);obtain⟨x',hx,ha⟩:=lR ha;exact SS ha (hρ _ _ hx)
 | convert s d x=>
  rw[ho] at hl;simp only[eH] at hl;refine pv _ (convert s d (ρ x)) hl (λa ha=>?_) (by simp only[execOp,ho]);obtain⟨x',hx,ha⟩:=lR ha;exact Mx ha (hρ _ _ hx)
 | makeInterface xt x=>
  rw[ho] at hl;simp only[eH] at hl;split at hl
  ·simp at hl
  ·rename_i d hni hu;refine pv _ (Instr.makeInterface xt (ρ x)) hl (λa ha=>?_) (by simp only[execOp,ho]);obtain⟨x',hx,rfl⟩:=au ha;refine⟨.iface xt (ρ x),?_,.iface (hρ _ _ hx)⟩;simp only[Instr.makeInterface,ne,aO hu,pp]
   cases d<;>first
    | rfl
    | exact ul rfl (hni _)
  ·simp at hl
 | makeFunc f first cap=>
  rw[ho] at hl;simp only[eH] at hl
  have hny:∀l,f≠.yield l:=by intro l e;subst e;simp at hl
  have hl2:((Bz t first.toList).bind λa=>(Bz t cap.toList).map λb=>AV.fn f a b).map (λx=>[(some x,h)])=some outs:=by
   cases f<;>first
    | exact hl
    | simp at hl
  refine pv _ (Instr.makeFunc f (first.map ρ) (cap.map ρ)) hl2 (λa ha=>?_) (by simp only[execOp,ho]);obtain⟨aS,h1,ha⟩:=lR ha;obtain⟨bs,h2,rfl⟩:=au ha;have r1:=rP hρ _ _ h1;have r2:=rP hρ _ _ h2;refine⟨.func f (first.map ρ) (cap.map ρ),rfl,.fn hny (by have:=r1.1;simpa using this) (λi a v x y=>r1.2 i a v x ?_) (by have:=r2.1;simpa using this) (λi a v x y=>r2.2 i a v x ?_)⟩
  ·rw[<-aa,bi] at y;exact y
  ·rw[<-aa,bi] at y;exact y
 | slice tt x lo hi mx=>
  rw[ho] at hl;simp only[eH] at hl;refine pv _ (Instr.sliceAt tt (ρ x) (lo.map ρ) (hi.map ρ) (mx.map ρ)) hl (λa ha=>?_) (by simp only[execOp,ho]);obtain⟨x',hx,ha⟩:=lR ha;obtain⟨lo',h1,ha⟩:=lR ha;obtain⟨hi',h2,ha⟩:=lR ha;obtain⟨mx',h3,ha⟩:=lR ha
  have vo:∀(y:Option Operand) (y':Option AV),OW t y=some y'->VO σ y' (y.map ρ):=by
   intro y y' hy
   cases y with
   | none=>simp[OW] at hy;subst hy;exact trivial
   | some y=>
    simp only[OW] at hy;obtain⟨z,hz,rfl⟩:=au hy;exact hρ _ _ hz
  exact JM hr ha (hρ _ _ hx) (vo _ _ h1) (vo _ _ h2) (vo _ _ h3)
 | fieldAddr s x f=>
  rw[ho] at hl;simp only[eH] at hl;refine pv _ (Instr.fieldAt s (ρ x) f) hl (λa ha=>?_) (by simp only[execOp,ho]);obtain⟨x',hx,ha⟩:=lR ha;exact zx ha (hρ _ _ hx)
 | field s x f=>
  rw[ho] at hl;simp only[eH] at hl;refine pv _ (Instr.field s (ρ x) f) hl (λa ha=>?_) (by simp only[execOp,ho]);obtain⟨x',hx,ha⟩:=lR ha;exact I6 ha (hρ _ _ hx)
 | indexAddr tt x i=>
  rw[ho] at hl;simp only[eH] at hl;refine pv _ (Instr.indexAt tt (ρ x) (ρ i)) hl (λa ha=>?_) (by simp only[execOp,ho]);obtain⟨x',hx,ha⟩:=lR ha;obtain⟨i',hi,ha⟩:=lR ha;exact Ac ha (hρ _ _ hx) (hρ _ _ hi)
 | index tt x i=>
  rw[ho] at hl;simp only[eH] at hl;refine pv _ (Instr.index tt (ρ x) (ρ i)) hl (λa ha=>?_) (by simp only[execOp,ho]);obtain⟨x',hx,ha⟩:=lR ha;obtain⟨i',hi,ha⟩:=lR ha;exact Jf ha (hρ _ _ hx) (hρ _ _ hi)
 | lookup tt x k ok=>
  rw[ho] at hl;simp only[eH] at hl;refine pv _ (Instr.lookup tt (ρ x) (ρ k) ok) hl (λa ha=>?_) (by simp only[execOp,ho]);obtain⟨x',hx,ha⟩:=lR ha;obtain⟨k',hk,ha⟩:=lR ha;exact GR hr ha (hρ _ _ hx) (hρ _ _ hk)
 | mapUpdate tt m k x=>
  rw[ho] at hl;simp only[eH] at hl;refine pu _ (Instr.mapUpdate tt (ρ m) (ρ k) (ρ x)) hl (λh' hh=>?_) (by simp only[execOp,ho]);obtain⟨m',hm,hh⟩:=lR hh;obtain⟨k',hk,hh⟩:=lR hh;obtain⟨x',hx,hh⟩:=lR hh;exact rb hr hh (hρ _ _ hm) (hρ _ _ hk) (hρ _ _ hx)
 | insert tt m k x=>
  rw[ho] at hl;simp only[eH] at hl;refine pu _ (Instr.mapUpdate tt (ρ m) (ρ k) (ρ x)) hl (λh' hh=>?_) (by simp only[execOp,ho]);obtain⟨m',hm,hh⟩:=lR hh;obtain⟨k',hk,hh⟩:=lR hh;obtain⟨x',hx,hh⟩:=lR hh;exact rb hr hh (hρ _ _ hm) (hρ _ _ hk) (hρ _ _ hx)
 | mapEntry tt m k=>
  rw[ho] at hl;simp only[eH] at hl;refine pvh _ (Instr.mapEntry tt (ρ m) (ρ k)) hl (λa h' hh=>?_) (by simp only[execOp,ho]);obtain⟨m',hm,hh⟩:=lR hh;obtain⟨k',hk,hh⟩:=lR hh;obtain⟨z,w',h1,h2,h3,h4⟩:=BG (P:=P) hr hh (hρ _ _ hm) (hρ _ _ hk);exact⟨σ,z,w',h1,h2,h3,h4⟩
 | entryStore tt m s x=>
  rw[ho] at hl;simp only[eH] at hl;refine pu _ (Instr.entryStore tt (ρ m) (ρ s) (ρ x)) hl (λh' hh=>?_) (by simp only[execOp,ho]);obtain⟨m',hm,hh⟩:=lR hh;obtain⟨s',hs,hh⟩:=lR hh;obtain⟨x',hx,hh⟩:=lR hh;exact xV hr hh (hρ _ _ hm) (hρ _ _ hs) (hρ _ _ hx)
 | range tt x=>
  rw[ho] at hl;simp only[eH] at hl;refine pvh _ (Instr.range tt (ρ x)) hl (λa h' hh=>?_) (by simp only[execOp,ho]);obtain⟨x',hx,hh⟩:=lR hh;exact JE hr hh (hρ _ _ hx)
 | next it isS=>
  rw[ho] at hl;simp only[eH] at hl;split at hl
  ·rename_i x hx;obtain⟨l,h1,rfl⟩:=au hl;obtain⟨r,h',h2,h3⟩:=M3 (P:=P) (T:=o.type) hr h1 (hρ _ _ hx);refine⟨some r,h',mem_map.2 ⟨(r,h'),h2,rfl⟩,?_⟩
   have:execOp ρ o=(do Pure.pure (Next.value (<-Instr.next (ρ it) isS o.type))):=by simp only[execOp,ho]
   rw[this];exact .yield h3
  ·simp at hl
 | entry it=>
  rw[ho] at hl;simp only[eH] at hl;refine pv _ (Instr.entry (ρ it)) hl (λa ha=>?_) (by simp only[execOp,ho]);obtain⟨x',hx,ha⟩:=lR ha;exact I2 hr ha (hρ _ _ hx)
 | extract x i=>
  rw[ho] at hl;simp only[eH] at hl;split at hl
  ·rename_i vs hx;refine pv _ (Instr.extract (ρ x) i) hl (λa ha=>?_) (by simp only[execOp,ho]);obtain⟨us,hg,hus⟩:=(hρ _ _ hx).Jw;obtain⟨z,h1,h2⟩:=hus.get ha;refine⟨z,?_,h2⟩
   have:us[i]?=some z:=by rw[<-aa];exact h1
   simp only[hg,Instr.extract,this,m9]
  ·simp at hl
 | typeAssert x xt aS ok=>
  rw[ho] at hl;simp only[eH] at hl;split at hl
  ·simp at hl
  ·rename_i d hni hu;split at hl
   ·rename_i dt y hx;obtain⟨hd,hl2⟩:=aF hl;clear hl;have:=cW hd;subst this;refine pv _ (Instr.typeAssert (ρ x) xt dt ok) hl2 (λa ha=>?_) (by simp only[execOp,ho]);simp only[qr] at ha;subst ha;have hV:=hρ _ _ hx;generalize hg:ρ x=v at hV
    cases hV with
    | @iface _ _ z hz=>
     refine⟨if ok then .tuple #[z,.bool true] else z,?_,?_⟩
     ·simp only[Instr.typeAssert,ne,aO hu,pp]
      cases d<;>first
       | (simp;done)
       | exact ul rfl (hni _)
     ·cases ok
      ·exact hz
      ·exact .gx (.cons hz (.cons (.bool _) .nil))
   ·simp at hl
  ·simp at hl
 | call c=>
  rw[ho] at hl;obtain⟨callee,args,argTypes⟩:=c
  cases callee with
  | builtin b=>
   simp only[eH] at hl;obtain⟨⟨a,h'⟩,ha,rfl⟩:=MX hl;obtain⟨xs,hx,hb⟩:=lR ha;refine⟨_,_,rt rfl,?_⟩;have:=rP hρ args.toList xs hx;have hd:=DE (T:=o.type) (cn:=args.map λ| .const _=>true | _=>false) (args:=args.map ρ) hr hb (by simpa using this);obtain⟨σ',x,w',h1,h2,h3,h4⟩:=hd;refine⟨σ',x,w',?_,h2,h3,h4⟩;simp only[execOp,ho,resolve,ne,m9,pp,invoke];exact h1
  | value f=>simp[eH] at hl
  | invoke r m=>simp[eH] at hl
 | ready g=>rw[ho] at hl;simp[eH] at hl
 | waits g=>rw[ho] at hl;simp[eH] at hl
 | sliceToArrayPointer d x=>rw[ho] at hl;simp[eH] at hl
 | makeChan tt s=>rw[ho] at hl;simp[eH] at hl
 | go c=>rw[ho] at hl;simp[eH] at hl
 | defer c=>rw[ho] at hl;simp[eH] at hl
 | panic x=>rw[ho] at hl;simp[eH] at hl
 | send ch x=>rw[ho] at hl;simp[eH] at hl
 | recv ct ch ok=>rw[ho] at hl;simp[eH] at hl
 | select cs b=>rw[ho] at hl;simp[eH] at hl
def UA(σ:Sg)(d:kr)(d':Deferred):Prop:=match d.fn with
 | none=>∃q,σ d.FU=some q/\d'={ target:=.collected q.b,args:=#[] }
 | some f=>∃g cap',f=.func g/\d'.target=.fn (.func g) cap'/\VL σ d.args d'.args.toList/\VL σ d.cap cap'.toList
def SZ(σ:Sg):List kr->List Deferred->Prop
 | [],[]=>True
 | d::ds,d'::ds'=>UA σ d d'/\SZ σ ds ds'
 | _,_=>False
def UA.mono{σ σ':Sg}(hle:∀id p,σ id=some p->σ' id=some p){d:kr}{d':Deferred}(h:UA σ d d'):UA σ' d d':=by
 unfold UA at *
 revert h
 cases d.fn with
 | none=>intro h;obtain⟨q,h1,h2⟩:=h;exact⟨q,hle _ _ h1,h2⟩
 | some f=>intro h;obtain⟨g,cap',h1,h2,h3,h4⟩:=h;exact⟨g,cap',h1,h2,h3.mono hle,h4.mono hle⟩
def SZ.mono{σ σ':Sg}(hle:∀id p,σ id=some p->σ' id=some p):∀{ds:List kr} {ds':List Deferred},SZ σ ds ds'->SZ σ' ds ds'
 | [],[],_=>trivial
 | _::_,_::_,h=>⟨h.1.mono hle,SZ.mono hle h.2⟩
structure SR (σ:Sg) (st:St) (a:Act) (w:World):Prop where
 t:TR σ st.t st.n a.tmps
 h:HR σ st.h w
 ds:SZ σ st.ds a.defers
def TR.ev{σ:Sg}{t:Tr AV}{n:Nat}{a:Act}(h:TR σ t n a.tmps):∀x y,ev t x=some y->V σ y (a.eval x):=by
 intro x y hx
 cases x with
 | tmp i=>
  simp only[Ev.ev,qr] at hx;have:=h.2 i;simp only[Act.eval]
  cases hg:t.get i with
  | none=>rw[hg] at hx this;subst hx;exact this
  | some v=>rw[hg] at hx this;subst hx;exact this
 | const v=>exact Ob _ _ _ hx
 | func f=>
  simp only[Ev.ev,qr] at hx;subst hx;exact .fn gc rfl (λi a v x _=>by simp at x) rfl (λi a v x _=>by simp at x)
 | global g=>simp[Ev.ev] at hx
def TR.put{σ:Sg}{t:Tr AV}{n:Nat}{a:Act}(h:TR σ t n a.tmps){d:Nat}{x:AV}{v:Value}(hd:d<n)(hv:V σ x v):TR σ (t.put d (some x)) n (a.put (some d) v).tmps:=by
 refine⟨by simp[Act.put,h.1],?_⟩;intro i;rw[dB];simp only[Act.put,ay,cd];by_cases hi:i=d
 ·subst hi;rw[un rfl,un rfl,un (by rw[h.1];exact hd)];exact hv
 ·rw[ut hi,ut (λe=>hi e.symm)];have:=h.2 i;rw[ay] at this;exact this
def put_defers(a:Act)(d:Option Tmp)(v:Value):(a.put d v).defers=a.defers:=by cases d<;>rfl
def Dm(P:Program)(r:Result Next)(R:Value->World->Prop):Prop:=match r with
 | .ok (.value v) w'=>R v w'
 | .ok (.enter f args) w'=>Calls P f args w' (λe w''=>∃v,e=.returned v/\R v w'')
 | .ok (.round l f tmps a b) w'=>∀n,RoundIn Fence.wide n P l f tmps a b w' (λe w''=>∃v,e=.returned v/\R v w'')
 | _=>False
def Wl(σ:Sg)(h:H)(w:World)(outs:List (AV×H))(v:Value)(w':World):Prop:=∃a h',(a,h')∈outs/\∃σ',V σ' a v/\HR σ' h' w'/\Ext σ σ' h h' w w'
def Bv{F:Fence}{n l:Nat}{P:Program}{f:FuncId}{args:Array Value}{w:World}{R:Ending->World->Prop}(h:CallsIn F n P f args w R):CallsIn (F.inRound l) n P f args w R:=h
def BM{F:Fence}{n l k:Nat}{P:Program}{f:FuncId}{t:Array Value}{a b:Code}{w:World}{R:Ending->World->Prop}(h:RoundIn F n P k f t a b w R):RoundIn (F.inRound l) n P k f t a b w R:=h
def Dl(σ:Sg)(ro:Option Nat)(F:Fence):Prop:=match ro with
 | none=>F=Fence.wide
 | some id=>∃p,σ id=some p/\F=Fence.wide.inRound p.b
def Dl.mono{σ σ':Sg}(hle:∀id p,σ id=some p->σ' id=some p){ro:Option Nat}{F:Fence}(h:Dl σ ro F):Dl σ' ro F:=by
 cases ro with
 | none=>exact h
 | some id=>obtain⟨p,h1,h2⟩:=h;exact⟨p,hle _ _ h1,h2⟩
def Dl.fn{σ:Sg}{ro:Option Nat}{F:Fence}(h:Dl σ ro F)(f:FuncId):F.fn f:=by
 cases ro with
 | none=>rw[show F=Fence.wide from h];trivial
 | some id=>obtain⟨p,_,rfl⟩:=h;trivial
def Dl.depth{σ:Sg}{ro:Option Nat}{F:Fence}(h:Dl σ ro F):F.depth=none:=by
 cases ro with
 | none=>rw[show F=Fence.wide from h];rfl
 | some id=>obtain⟨p,_,rfl⟩:=h;rfl
def Dl.calls{σ:Sg}{ro:Option Nat}{F:Fence}(h:Dl σ ro F){n:Nat}{P:Program}{f:FuncId}{args:Array Value}{w:World}{R:Ending->World->Prop}(hc:Calls P f args w R):CallsIn F n P f args w R:=by
 cases ro with
 | none=>rw[show F=Fence.wide from h];exact callsIn_wide.2 hc
 | some id=>obtain⟨p,_,rfl⟩:=h;exact Bv (callsIn_wide.2 hc)
def Dl.rounds{σ:Sg}{ro:Option Nat}{F:Fence}(h:Dl σ ro F){n k:Nat}{P:Program}{f:FuncId}{t:Array Value}{a b:Code}{w:World}{R:Ending->World->Prop}(hc:RoundIn Fence.wide n P k f t a b w R):RoundIn F n P k f t a b w R:=by
 cases ro with
 | none=>rw[show F=Fence.wide from h];exact hc
 | some id=>obtain⟨p,_,rfl⟩:=h;exact BM hc
def SU{P:Program}{σ:Sg}{ro:Option Nat}{F:Fence}(hF:Dl σ ro F){n:Nat}{o:Oper}{a:Act}{next:Act->World->Prop}{Q:Exit->Act->World->Prop}{r:Result Next}{R:Value->World->Prop}
 (hf:Dm P r R) (hn:∀v w',R v w'->next (a.put o.dst v) w'):o.uponIn F n P a next Q r:=by
 cases r with
 | halt h w=>exact hf.elim
 | ok x w'=>
  cases x with
  | value v=>exact hn v w' hf
  | enter f args=>
   have h2:=hF.calls (n:=n-1) hf;refine⟨λh=>by rw[hF.depth] at h;simp at h,h2.1,λcs hr=>?_⟩;obtain⟨e,w'',fr,⟨v,rfl,hR⟩,h3⟩:=h2.2 cs hr;exact⟨.returned v,w'',fr,hn v w'' hR,h3⟩
  | round l f tmps aS b=>
   refine⟨λh=>by rw[hF.depth] at h;simp at h,?_⟩
   exact(hF.rounds (hf (n-1))).mono λe w'' ⟨v,he,hR⟩=>by subst he;exact hn v w'' hR
  | _=>exact hf.elim
def IT{P:Program}{t:Tr AV}{c:Call}{f:Fn}{xs cap:List AV}(h:pQ P t c=some (f,xs,cap)){σ:Sg}{ρ:Operand->Value}(hρ:∀x a,ev t x=some a->V σ a (ρ x))(T:TypeId){w:World}:
 (∃g args',f=.func g/\VL σ (xs++cap) args'.toList/\((do let d <-resolve ρ c T;invoke d.target d.args):Sem Next).run P w=(callFunc g args').run P w)\/
 (∃id p args',f=.yield id/\σ id=some p/\VL σ (xs++cap) args'.toList/\((do let d <-resolve ρ c T;invoke d.target d.args):Sem Next).run P w=(Instr.yield p.b args').run P w)\/
 (∀g,f≠.func g)/\(∀id,f≠.yield id):=by
 unfold pQ at h;obtain⟨callee,args,ats⟩:=c;simp only at h
 cases callee with
 | builtin b=>simp at h
 | value g=>
  simp only at h;split at h
  ·rename_i fn first cp hg
   obtain⟨ys,hy,he⟩:=au h;simp only[m8] at he;obtain⟨rfl,rfl,rfl⟩:=he;have hys:=rP hρ _ _ hy;have hV:=hρ _ _ hg;generalize hgv:ρ g=v at hV
   cases hV with
   | @fn _ _ _ fs' cs' hfy h1 h2 h3 h4=>
    have hfs:VL σ first fs'.toList:=⟨by simpa using h1,λi a v x y=>h2 i a v x (by simpa using y)⟩
    have hcs:VL σ cp cs'.toList:=⟨by simpa using h3,λi a v x y=>h4 i a v x (by simpa using y)⟩
    cases fn with
    | func k=>
     refine .inl ⟨k,fs'++args.map ρ++cs',rfl,?_,?_⟩
     ·simp only[bc,bi];exact(hfs.append hys).append hcs
     ·simp only[resolve,hgv,Deferred.ofValue,ne,m9,pp,invoke]
    | yield l=>exact ul rfl (hfy l)
    | method nm=>exact .inr (.inr ⟨by simp,by simp⟩)
    | methodOf tt nm=>exact .inr (.inr ⟨by simp,by simp⟩)
    | via tt p q b=>exact .inr (.inr ⟨by simp,by simp⟩)
   | @yield id p hp=>
    refine .inr (.inl ⟨id,p,#[]++args.map ρ,rfl,hp,?_,?_⟩)
    ·simp only[bc,bi,d6,fw];exact hys
    ·simp only[resolve,hgv,Deferred.ofValue,ne,m9,pp,invoke]
  ·simp at h
 | invoke r name=>
  simp only at h;split at h
  ·rename_i tt v hr;obtain⟨g,hg,h⟩:=mW h;obtain⟨ys,hy,he⟩:=au h;simp only[m8] at he;obtain⟨rfl,rfl,rfl⟩:=he;have hys:=rP hρ _ _ hy;have hV:=hρ _ _ hr;generalize hgv:ρ r=rv at hV
   cases hV with
   | @iface _ _ vv hva=>
    obtain⟨i,m,d,hi,hf,hp,hfu,hu,hd⟩:=xb hg;refine .inl ⟨g,#[vv]++args.map ρ,rfl,?_,?_⟩
    ·simp only[bc,bi,fw];exact .cons hva hys
    ·have hpath:m.path.toList=[]:=by
      have:=hp;simpa using this
     have hm:(method (P.types.size+Made.depth) tt vv name).run P w=.ok (g,vv) w:=by
      rw[show P.types.size+Made.depth=(P.types.size+99)+1 from rfl];generalize P.types.size+99=kk;simp only[method,ne,c9 hi,pp,hf,hpath,follow,m9,hfu,receiverAt,aO hu]
      cases d<;>first
       | rfl
       | exact ul rfl (hd _)
     have he0:(#[Value.iface tt vv]++args.map ρ)[0]?=some (Value.iface tt vv):=by rw[Array.getElem?_append_left gc];rfl
     have he1:(#[Value.iface tt vv]++args.map ρ).extract 1 (#[Value.iface tt vv]++args.map ρ).size=args.map ρ:=by
      apply ext';simp;exact b8 gc
     simp only[resolve,hgv,ne,m9,pp,invoke,he0,he1,callMethod,run_program,hm]
  ·simp at h
def Bq{ops:Array Oper}{σ:Sg}{t:Tr AV}{n:Nat}{a:Act}{o:Oper}{b:Bool}(h:vB ops.toList t n o=some b)(ht:TR σ t n a.tmps):Region.wanted o (yielded ops a.tmps)=b:=by
 unfold vB at h;unfold Region.wanted;split at h
 ·rename_i hg;rw[hg];simpa using h
 ·rename_i j want hg;rw[hg];simp only;split at h
  ·rename_i d hd;obtain⟨hlt,h2⟩:=aF h;have hlt:=gp hlt
   have hd':(ops[j]?).bind (·.dst)=some d:=by rw[<-aa];exact hd
   have hsz:d<a.tmps.size:=by rw[ht.1];exact hlt
   have hv:=ht.2 d;have hget:a.tmps[d]?=some (a.tmps[d]):=bt hsz;rw[ay,hget] at hv;simp only[d9] at hv
   have hy:yielded ops a.tmps j=match a.tmps[d] with | .bool b=>some b | _=>none:=by
    unfold yielded;rw[hd'];simp only[m7,hget];cases a.tmps[d]<;>rfl
   rw[hy];generalize a.tmps[d]=v at hv;split at h2
   ·rename_i x hx;rw[hx] at hv;simp only[d9] at hv;cases hv;simp only[qr] at h2;subst h2;cases x<;>cases want<;>rfl
   ·rename_i hx;rw[hx] at hv;simp only[d9] at hv;obtain⟨vs,rfl,_⟩:=hv.Jw;simp only[qr] at h2;subst h2;rfl
   ·rename_i hx;rw[hx] at hv;obtain⟨vs,rfl,_⟩:=V.Jw (cs:=[]) hv;simp only[qr] at h2;subst h2;rfl
   ·simp at h2
  ·simp at h
def WU:Ex->Exit->Prop
 | .normal,e=>e=.normal
 | .ret,e=>e=.ret
 | .exit id,e=>e=.exit id
 | .goto l,e=>e=.goto l
def u9{σ:Sg}{h:H}{w:World}(hr:HR σ h w){id:Nat}{st:LoopState}{p:Option Code}{t:Tr AV}{n:Nat}{ps:Array Tmp}{x y:Code}{d:Nat}(hl:h.qh id=some (st,p,t,n,ps,x,y,d)):
 h.aU.get id=some (.loop st p t n ps x y d)/\∃q,σ id=some q/\∃f tmps qd,w.heap[q.b]?=some (.loop { state:=st,pending:=p,fn:=f,tmps,params:=ps,assign:=x,body:=y,defers:=qd.b })/\σ d=some qd/\TR σ t n tmps:=by
 unfold H.qh at hl;split at hl
 ·rename_i ho;simp only[qr,m8] at hl;obtain⟨rfl,rfl,rfl,rfl,rfl,rfl,rfl,rfl⟩:=hl;obtain⟨q,hq,f,tmps,qd,h1,h2,h3⟩:=hr.obj id _ ho;exact⟨ho,q,hq,f,tmps,qd,h1,h2,h3⟩
 ·simp at hl
def HR.newObj{σ:Sg}{h:H}{w:World}(hr:HR σ h w){o:AO}{ob:Obj}(hc:my o=false)(hor:OR (up σ h.next ⟨w.heap.size,0,0⟩) o ⟨w.heap.size,0,0⟩ (some ob)):
 HR (up σ h.next ⟨w.heap.size,0,0⟩) (h.newObj o).2 { w with heap:=w.heap.push ob }/\Ext σ (up σ h.next ⟨w.heap.size,0,0⟩) h (h.newObj o).2 w { w with heap:=w.heap.push ob }:=by
 obtain⟨k1,k2⟩:=hr.new (r:=0) (o:=o) (ob:=ob) (w':={ w with heap:=w.heap.push ob }) (λcs f hf=>by subst hf;simp[my] at hc) hor rfl rfl rfl rfl
 have he:({ h.lay h.next o with next:=h.next+1 }:H)=(h.newObj o).2:=by
  unfold H.lay H.newObj;split
  ·simp[my] at hc
  ·rfl
 rw[he] at k1 k2;exact⟨k1,k2⟩
def tG(P:Program):Prop:=∀(f:FuncId) (fn:Func),P.funcs[f]?=some fn->fn.body.isSome=true->(fn.name== "runtime.NumGoroutine")=false
def ei{P:Program}(hng:tG P){f:FuncId}{fn:Func}(hf:P.funcs[f]?=some fn)(hb:fn.body.isSome=true)(args:Array Value)(w:World):(callFunc f args).run P w=.ok (.enter f args) w:=by
 have h1:=hng f fn hf hb
 have h2:fn.body.isNone=false:=by cases h:fn.body<;>simp_all
 simp only[callFunc,ne,run_program,pp,hf,h1,aY,if_false,h2,m9]
def MF{P:Program}{σ:Sg}{ro:Option Nat}{F:Fence}(hF:Dl σ ro F){ps:Array Tmp}{assign body:Code}{st st1:St}{id:Nat}{a:Act}{w:World}(hs:SR σ st a w)(hen:DP ro ps assign body st=some (id,st1))(fn:FuncId):
 ∃(lb:Nat) (mark:List Deferred) (w1:World) (σ1:Sg) (p:tE),(Instr.enterLoop fn a.tmps ps assign body F.round).run P w=.ok (lb,mark) w1/\σ1 id=some p/\p.b=lb/\
  SR σ1 st1 { a with defers:=mark++a.defers } w1/\Ext σ σ1 st.h st1.h w w1/\st1.n=st.n:=by
 cases ro with
 | none=>
  have hF':F=Fence.wide:=hF;subst hF';simp only[DP,qr,m8] at hen;obtain⟨rfl,rfl⟩:=hen;obtain⟨k1,k2⟩:=hs.h.newObj (o:=.nd false) (ob:=.deferred (some [])) rfl rfl
  obtain⟨k3,k4⟩:=k1.newObj (o:=.loop .ready none st.t st.n ps assign body st.h.next) (ob:=.loop { state:=.ready,pending:=none,fn:=fn,tmps:=a.tmps,params:=ps,assign:=assign,body:=body,defers:=w.heap.size }) rfl
   ⟨fn,a.tmps,⟨w.heap.size,0,0⟩,rfl,pE (k1.fresh _ (ap _)) _ _ (eG _ _ _),(hs.t.mono k2.le).mono (pE (k1.fresh _ (ap _)))⟩
  have hle:=(k2.trans k4).le;refine⟨w.heap.size+1,[{ target:=.collected w.heap.size,args:=#[] }],_,_,⟨w.heap.size+1,0,0⟩,?_,?_,rfl,⟨hs.t.mono hle,k3,?_⟩,k2.trans k4,rfl⟩
  ·have hr:Fence.wide.round=none:=rfl;rw[hr];simp only[Instr.enterLoop,ne,run_newObj,pp,m9,Array.size_push]
  ·have:(w.heap.push (.deferred (some []))).size=w.heap.size+1:=by simp
   rw[<-this];exact eG _ _ _
  ·refine⟨⟨⟨w.heap.size,0,0⟩,pE (k1.fresh _ (ap _)) _ _ (eG _ _ _),rfl⟩,hs.ds.mono hle⟩
 | some l=>
  obtain⟨pl,hpl,rfl⟩:=hF;simp only[DP] at hen;obtain⟨r,hr,he⟩:=au hen;simp only[m8] at he;obtain⟨rfl,rfl⟩:=he;obtain⟨ls,p0,t0,n0,ps0,a0,b0,d0⟩:=r;obtain⟨ho,q,hq,f0,tm0,qd,g1,g2,g3⟩:=u9 hs.h hr;rw[hpl] at hq;cases hq
  obtain⟨k3,k4⟩:=hs.h.newObj (o:=.loop .ready none st.t st.n ps assign body d0) (ob:=.loop { state:=.ready,pending:=none,fn:=fn,tmps:=a.tmps,params:=ps,assign:=assign,body:=body,defers:=qd.b }) rfl
   ⟨fn,a.tmps,qd,rfl,pE (hs.h.fresh _ (ap _)) _ _ g2,hs.t.mono (pE (hs.h.fresh _ (ap _)))⟩
  refine⟨w.heap.size,[],_,_,⟨w.heap.size,0,0⟩,?_,eG _ _ _,rfl,⟨hs.t.mono k4.le,k3,hs.ds.mono k4.le⟩,k4,rfl⟩;have hr:(Fence.wide.inRound pl.b).round=some pl.b:=rfl;rw[hr];simp only[Instr.enterLoop,Instr.getLoop,ne,cm g1 gc,run_newObj,pp,m9]
def sT:∀(aS:List AV) (i:Nat) (t:Tr AV) (j:Nat),(yT i aS t).get j=if i<=j/\j<i+aS.length then aS[j-i]? else t.get j
 | [],i,t,j=>by simp only[yT,i5];rw[ut ii]
 | a::aS,i,t,j=>by
  simp only[yT,sT aS (i+1) _ j,i7];by_cases h1:i+1<=j/\j<i+1+aS.length
  ·rw[un h1,un ii,show j-i=(j-(i+1))+1 by omega,ac]
  ·rw[ut h1,dB];by_cases h2:j=i
   ·subst h2;rw[un rfl,un ii];simp
   ·rw[ut h2,ut ii]
def OS{σ:Sg}{args:List AV}{args':Array Value}(h:VL σ args args'.toList)(nt:Nat):
 TR σ (yT 0 args .nil) (args.length+(nt-args.length)) (args'++fy (nt-args'.size) undef):=by
 have hl:args.length=args'.size:=by simpa using h.1
 refine⟨by simp;omega,?_⟩;intro i;rw[sT,ay,Array.getElem?_append];by_cases hi:i<args.length
 ·rw[un ii,un ii];obtain⟨v,h1,h2⟩:=h.get (jp hi)
  have h1':args'[i]?=some v:=by rw[<-aa];exact h1
  rw[h1',e5,jp hi];exact h2
 ·rw[ut ii,ut ii,get_nil];rw[Array.getElem?_replicate];split
  ·exact V.mg
  ·exact V.mg
def GW{P:Program}{w:World}{α:Type}{σ:Sg}{f:α->Option AV}{g:α->Sem Value}(hfg:∀x a,f x=some a->∃v,(g x).run P w=.ok v w/\V σ a v):∀(l:List α) (aS:List AV),l.mapM f=some aS->
 ∃vs:List Value,(l.mapM g).run P w=.ok vs w/\VL σ aS vs
 | [],aS,h=>by simp at h;subst h;exact⟨[],by simp,.nil⟩
 | x::l,aS,h=>by
  rw[cv] at h
  cases h1:f x with
  | none=>simp[h1] at h
  | some a=>
   cases h2:l.mapM f with
   | none=>simp[h1,h2] at h
   | some bs=>
    simp[h1,h2] at h;subst h;obtain⟨v,k1,k2⟩:=hfg x a h1;obtain⟨vs,k3,k4⟩:=GW hfg l bs h2;refine⟨v::vs,?_,.cons k2 k4⟩;rw[cv];simp only[ne,k1,pp,k3,m9]
def uO{P:Program}{σ:Sg}{t:Tr AV}{n:Nat}{h:H}{w:World}{fn:Func}{a:Act}{r:AV}(ht:TR σ t n a.tmps)(hr:HR σ h w)(hres:uN P t h fn.results.toList=some r):
 ∃v,(results fn a.tmps).run P w=.ok v w/\V σ r v:=by
 unfold uN at hres;obtain⟨aS,h1,h2⟩:=au hres
 have hfg:∀(x:ResultVar) (y:AV),(match x with
  | ResultVar.tmp i=>ev t (.tmp i)
  | ResultVar.cell a tt=>match ev t (.tmp a) with
   | some (.ptr (some (id,off)))=>h.load P tt id off
   | _=>none)=some y->∃v,(match x with
  | .tmp t=>pure (a.tmps.getD t undef)
  | .cell q tt=>do loadVar tt (<-asAddr (a.tmps.getD q undef)):Sem Value).run P w=.ok v w/\V σ y v:=by
  intro x y hx
  cases x with
  | tmp i=>exact⟨_,rfl,ht.ev _ _ hx⟩
  | cell q tt=>
   simp only at hx;split at hx
   ·rename_i id off hq;have hV:=ht.ev _ _ hq;have he:a.eval (.tmp q)=a.tmps.getD q undef:=rfl;rw[he] at hV;generalize hg:a.tmps.getD q undef=v at hV
    cases hV with
    | ptr hp=>
     obtain⟨z,k1,k2⟩:=hr.GP (P:=P) hx hp;exact⟨z,by simp only[hg,asAddr,ne,m9,pp];exact k1,k2⟩
   ·simp at hx
 obtain⟨vs,k1,k2⟩:=GW (P:=P) (w:=w) hfg fn.results.toList aS h1
 have hm:(fn.results.mapM λ
  | .tmp t=>pure (a.tmps.getD t undef)
  | .cell q tt=>do loadVar tt (<-asAddr (a.tmps.getD q undef)):Sem (Array Value)).run P w=.ok vs.toArray w:=by
  have e:∀(f:ResultVar->Sem Value),fn.results.mapM f=Functor.map List.toArray (fn.results.toList.mapM f):=by
   intro f;obtain⟨l⟩:=fn.results;exact List.mapM_toArray
  rw[e,Sem.run_map,k1];rfl
 refine⟨if h:vs.toArray.size=1 then vs.toArray[0] else .tuple vs.toArray,?_,?_⟩
 ·have key:(results fn a.tmps).run P w=(Result.ok vs.toArray w:Result (Array Value)).andThen (λvs w'=>.ok (if h:vs.size=1 then vs[0] else .tuple vs) w'):=by
   rw[<-hm];simp only[results,ne];rfl
  exact key
 ·split at h2
  ·rename_i v;subst h2;obtain⟨x,l,rfl,e1,e2⟩:=k2.dI;have:=e2.qf;subst this;simpa using e1
  ·rename_i hne;subst h2;have hl:=k2.1;by_cases hs:vs.toArray.size=1
   ·exfalso
    have:aS.length=1:=by simp at hs;omega
    match aS,this with
    | [v],_=>exact hne v rfl
   ·rw[dif_neg hs];exact .Pw k2
def tV{e:Ex}(h:kM e=true):e=.normal\/e=.ret:=by cases e<;>simp_all [kM]
def lower{σ σ':Sg}{h0 h':H}{w w':World}(hr0:HR σ h0 w)(hr:HR σ' h' w')(hE:Ext σ σ' { h0 with low:=h0.next } h' w w'):
 HR σ' { h' with low:=iA h0.low h'.low } w'/\Ext σ σ' h0 { h' with low:=iA h0.low h'.low } w w':=by
 have hm:=dR h0.low h'.low;refine⟨⟨hr.obj,hr.fresh,hr.sep,hr.bQ,eu hm.2 hr.D7⟩,⟨hE.le,hE.next,hE.size,hE.os,hE.tape,hE.output,hE.Hv,hE.frame,hm.1,λid h1 h2=>hE.same id (Nat.lt_of_lt_of_le h1 hm.2) h2,hE.mP,hE.dF⟩⟩
def uZ{σ:Sg}:∀(ps:List Tmp) (args:List AV) (vs:List Value) (n:Nat) (t t1:Tr AV) (tmps:Array Value),jL (ps.zip args) n t=some t1->VL σ args vs->TR σ t n tmps->
 TR σ t1 n ((ps.zip vs).foldl (λ(tmps:Array Value) (x:Tmp×Value)=>tmps.setIfInBounds x.1 x.2) tmps)
 | [],args,vs,n,t,t1,tmps,h,hv,ht=>by
  simp only[List.zip_nil_left,jL,qr] at h;subst h;simpa using ht
 | p::ps,[],vs,n,t,t1,tmps,h,hv,ht=>by
  have:=hv.qf;subst this;simp only[List.zip_nil_right,jL,qr] at h;subst h;simpa using ht
 | p::ps,a::args,vs,n,t,t1,tmps,h,hv,ht=>by
  obtain⟨v,vs,rfl,h1,h2⟩:=hv.dI;simp only[em,jL] at h;obtain⟨c1,h⟩:=aF h;simp only[em,fx];have:=TR.put (a:={ tmps:=tmps,defers:=[] }) ht (gp c1) h1;exact uZ ps args vs n _ t1 _ h h2 this
def NN{P:Program}{w:World}{b:Nat}{r:Loop}{args:Array Value}(hw:w.heap[b]?=some (.loop r))(hs:args.size=r.params.size):
 (Instr.yield b args).run P w=.ok (.round b r.fn ((r.params.zip args).foldl (λtmps (t,a)=>tmps.setIfInBounds t a) r.tmps) r.assign r.body) w:=by
 have:(args.size≠r.params.size)=False:=by simp[hs]
 simp only[Instr.yield,Instr.getLoop,ne,cm hw gc,pp,m9,this,if_false]
def yV{P:Program}{w:World}{b:Nat}{r:Loop}(hw:w.heap[b]?=some (.loop r))(hs:r.state=.ready):
 (Instr.beginRound b).run P w=.ok () { w with heap:=w.heap.setIfInBounds b (.loop { r with state:=.busy }) }:=by
 simp only[Instr.beginRound,Instr.getLoop,ne,cm hw gc,pp,m9,ez hw gc,hs]
def DO{P:Program}{w:World}{b:Nat}{r:Loop}(hw:w.heap[b]?=some (.loop r))(j:Option Code):
 (Instr.endRound b j).run P w=.ok (.bool j.isNone) { w with heap:=w.heap.setIfInBounds b (.loop { r with state:=if j.isNone then .ready else .done,pending:=j }) }:=by
 simp only[Instr.endRound,Instr.getLoop,ne,cm hw gc,pp,m9,ez hw gc]
def Ab(a b j:Nat):bR (lor a b) j=(bR a j||bR b j):=Nat.testBit_or a b j
def Jd(n j:Nat):bR (bit n) j=true↔n=j:=by
 unfold bR bit;rw[Nat.testBit_two_pow];simp
def Gw(j:Nat):bR 0 j=false:=Nat.zero_testBit j
def Jm(acc:List Nat)(o:Oper):Nat:=o.after.toList.foldl (λm e=>cond (Region.binds .any e) (lor m (lor (bit e.on) (acc.getD e.on 0))) m) 0
def qj(o:Oper)(rest:List Oper)(acc:List Nat):pd (o::rest) acc=pd rest (acc++[Jm acc o]):=rfl
def Gn{acc:List Nat}{j:Nat}:∀(l:List Edge) (m:Nat),bR (l.foldl (λm e=>cond (Region.binds .any e) (lor m (lor (bit e.on) (acc.getD e.on 0))) m) m) j=true->
 bR m j=true\/∃e∈l,Region.binds .any e=true/\(e.on=j\/bR (acc.getD e.on 0) j=true)
 | [],m,h=>.inl h
 | e::l,m,h=>by
  rw[fx] at h
  rcases Gn l _ h with h1 | ⟨e',h1,h2⟩
  ·cases hb:Region.binds .any e
   ·rw[hb,aw] at h1;exact .inl h1
   ·rw[hb,ar,Ab,Ab,c6,c6] at h1
    rcases h1 with h1 | h1 | h1
    ·exact .inl h1
    ·exact .inr ⟨e,aj ..,hb,.inl ((Jd _ _).1 h1)⟩
    ·exact .inr ⟨e,aj ..,hb,.inr h1⟩
  ·exact .inr ⟨e',ad _ h1,h2⟩
def wm:∀(rest:List Oper) (acc:List Nat) (i:Nat),i<acc.length->(pd rest acc).getD i 0=acc.getD i 0
 | [],acc,i,h=>rfl
 | o::rest,acc,i,h=>by
  rw[qj,wm rest _ i (by simp;omega)];rw[bh,bh,am h]
def GZ:∀(rest:List Oper) (acc:List Nat) (k:Nat) (o:Oper),rest[k]?=some o->
 ∃acc':List Nat,(pd rest acc).getD (acc.length+k) 0=Jm acc' o/\∀j,j<acc.length+k->acc'.getD j 0=(pd rest acc).getD j 0
 | [],acc,k,o,h=>by simp at h
 | o'::rest,acc,0,o,h=>by
  simp only[ax,qr] at h;subst h;refine⟨acc,?_,λj hj=>(wm _ _ _ ii).symm⟩;rw[qj,wm rest _ _ gc];simp[bh]
 | o'::rest,acc,k+1,o,h=>by
  rw[ac] at h;obtain⟨acc',h1,h2⟩:=GZ rest (acc++[Jm acc o']) k o h;simp only[li,List.length_singleton] at h1 h2;refine⟨acc',?_,λj hj=>?_⟩
  ·rw[qj,show acc.length+(k+1)=acc.length+1+k by omega];exact h1
  ·rw[qj];exact h2 j ii
def Jo{ops:List Oper}{i:Nat}{o:Oper}(ho:ops[i]?=some o)(hb:∀e∈o.after.toList,Region.binds .any e=true->e.on<i){j:Nat}(hj:bR ((pd ops []).getD i 0) j=true):
 ∃e∈o.after.toList,Region.binds .any e=true/\(e.on=j\/bR ((pd ops []).getD e.on 0) j=true):=by
 obtain⟨acc',h1,h2⟩:=GZ ops [] i o ho;simp only[i5,b5] at h1 h2;rw[h1] at hj
 rcases Gn _ _ hj with h | ⟨e,he,hbind,h⟩
 ·rw[Gw] at h;cases h
 ·refine⟨e,he,hbind,?_⟩;rw[<-h2 e.on (hb e he hbind)];exact h
def kc{α:Type}:∀(l:List α) (k i:Nat),(cY k l)[i]?=(l[i]?).map λx=>(k+i,x)
 | [],k,i=>by simp[cY]
 | x::xs,k,0=>by simp[cY]
 | x::xs,k,i+1=>by
  simp only[cY,ac,kc xs (k+1) i];cases xs[i]?<;>simp;omega
def cut(a:Act)(l:List Tmp):Act:={ tmps:=Array.ofFn (n:=a.tmps.size) λj=>if j.1∈l then a.tmps[j.1] else undef,defers:=[] }
def Jp{o:Oper}{t:Tmp}(h:Operand.tmp t∈o.op.operands):t∈tmpsOf o:=
 List.mem_filterMap.2 ⟨.tmp t,by simpa using h,rfl⟩
def left(listed:Array Bool)(L:Nat):Nat:=((bd L).filter λi=>!listed.getD i false).length
def filter_lt{α:Type}{p q:α->Bool}:∀(l:List α),(∀x∈l,q x=true->p x=true)->(∃x∈l,p x=true/\q x=false)->(l.filter q).length<(l.filter p).length
 | [],_,⟨x,hx,_⟩=>by simp at hx
 | y::l,h,⟨x,hx,hp,hq⟩=>by
  have hle:∀(l:List α),(∀x∈l,q x=true->p x=true)->(l.filter q).length<=(l.filter p).length:=by
   intro l
   induction l with
   | nil=>intro _;simp
   | cons z l ih=>
    intro h;have:=ih (λx hx=>h x (ad _ hx));have hz:=h z (aj ..);rw[b6,b6];cases hqz:q z
    ·cases hpz:p z<;>simp<;>omega
    ·rw[hz hqz];simp;omega
  have h':∀x∈l,q x=true->p x=true:=λx hx=>h x (ad _ hx);rw[b6,b6]
  rcases t6 hx with rfl | hx
  ·rw[hp,hq];have:=hle l h';simp;omega
  ·have:=filter_lt l h' ⟨x,hx,hp,hq⟩;have hy:=h y (aj ..);cases hqy:q y
   ·cases hpy:p y<;>simp<;>omega
   ·rw[hy hqy];simp;omega
open Go.RowKit
def Dm.mono{P:Program}{r:Result Next}{R R':Value->World->Prop}(h:Dm P r R)(hR:∀v w,R v w->R' v w):Dm P r R':=by
 cases r with
 | halt x w=>exact h.elim
 | ok x w=>
  cases x with
  | value v=>exact hR _ _ h
  | enter f args=>exact Calls.mono h λe w' ⟨v,he,hr⟩=>⟨v,he,hR _ _ hr⟩
  | round l f tmps a b=>exact λn=>RoundIn.mono (h n) λe w' ⟨v,he,hr⟩=>⟨v,he,hR _ _ hr⟩
  | _=>exact h.elim
def hz:H:={ aU:=.nil,dF:=.nil,next:=0,low:=0 }
def sU{σ:Sg}{h:H}{w w':World}(hr:HR σ h w)(hb:Below w.heap.size w w'):HR σ h w'/\Ext σ σ h h w w':=by
 refine⟨⟨λid o ho=>?_,hr.fresh,hr.sep,hr.bQ,hr.D7⟩,⟨λ_ _ h=>h,ap _,hb.size,hb.os,hb.tape,hb.output,λid o p ho hp=>.inr ⟨id,o,p,ho,hp,rfl,λh=>h⟩,λb hlt _=>hb.block b hlt,ap _,λ_ _ _=>rfl,λ_ _ h=>h,λid cs _ ho=>.inr ⟨id,cs,ho⟩⟩⟩;obtain⟨p,hp,hor⟩:=hr.obj id o ho;exact⟨p,hp,by rw[hb.block _ (hr.lt ho hp)];exact hor⟩
def N9(P:Program)(f:FuncId)(k:XK):Prop:=∀args h a h',xA k args h=some (a,h')->∀σ w (args':Array Value),VL σ args args'.toList->HR σ h w->Dm P ((callFunc f args').run P w) (Wl σ h w [(a,h')])
def UN{σ:Sg}{a:AV}{args':Array Value}(h:VL σ [a] args'.toList):∃x,args'=#[x]/\V σ a x:=by
 obtain⟨x,l,e,h1,h2⟩:=h.dI;have:=h2.qf;subst this;exact⟨x,ext' e,h1⟩
def FP{σ:Sg}{a b:AV}{args':Array Value}(h:VL σ [a,b] args'.toList):∃x y,args'=#[x,y]/\V σ a x/\V σ b y:=by
 obtain⟨x,l,e,h1,h2⟩:=h.dI;obtain⟨y,l,rfl,h3,h4⟩:=h2.dI;have:=h4.qf;subst this;exact⟨x,y,ext' e,h1,h3⟩
def BB{P:Program}(hng:tG P){f:FuncId}{fn:Func}(hf:P.funcs[f]?=some fn)(hb:fn.body.isSome=true){args':Array Value}{w:World}{σ:Sg}{h:H}{a:AV}{v:Value}(hr:HR σ h w)(hV:V σ a v)
 (hc:Calls P f args' w λe w'=>e=.returned v/\Below w.heap.size w w'):Dm P ((callFunc f args').run P w) (Wl σ h w [(a,h)]):=by
 rw[ei hng hf hb];refine Calls.mono hc λe w' ⟨he,hb⟩=>⟨v,he,a,h,rt rfl,σ,hV,?_⟩;exact sU hr hb
noncomputable section
def rv(h:H)(r:Option AV):R (Option AV×H):=r.map λx=>[(some x,h)]
def U0(fs:List Func):Bool:=fs.all λfn=>!(fn.body.isSome&&fn.name== "runtime.NumGoroutine")
def RX{P:Program}(h:U0 P.funcs.toList=true):tG P:=by
 intro f fn hf hb
 have hm:fn∈P.funcs.toList:=by
  have h1:P.funcs.toList[f]?=some fn:=by rw[aa];exact hf
  exact cc h1
 have:=List.all_eq_true.1 h fn hm;rw[hb] at this;cases hn:fn.name== "runtime.NumGoroutine"
 ·rfl
 ·rw[hn] at this;simp at this
def idx_eq(c:Nat)(hc:c<256):∀(l:List UInt8) (i:Nat),gr c (l.map (·.toNat)) i=if Lib.indexByte l c.toUInt8 = -1 then -1 else Lib.indexByte l c.toUInt8+i
 | [],i=>rfl
 | b::l,i=>by
  have ih:=idx_eq c hc l (i+1);have hge:=Lib.indexByte_ge l c.toUInt8
  have he:Lib.indexByte (b::l) c.toUInt8=if b==c.toUInt8 then 0 else if Lib.indexByte l c.toUInt8 == -1 then -1 else Lib.indexByte l c.toUInt8+1:=rfl
  generalize Lib.indexByte (b::l) c.toUInt8=z at he;simp only[List.map_cons,gr]
  have hcc:(c.toUInt8).toNat=c:=by simp[Nat.toUInt8,UInt8.toNat_ofNat];omega
  cases hb:Nat.beq b.toNat c
  ·have hne:(b==c.toUInt8)=false:=by
    cases h:b==c.toUInt8
    ·rfl
    ·have e:=eq_of_beq h
     have:b.toNat=c:=by rw[e,hcc]
     rw[N0 this] at hb;cases hb
   rw[hne] at he;simp only[Bool.false_eq_true,if_false] at he;rw[aw,ih];by_cases h1:Lib.indexByte l c.toUInt8 = -1
   ·have h2:(Lib.indexByte l c.toUInt8 == -1)=true:=by simpa using h1
    rw[h2] at he;simp only[if_true] at he;rw[un h1,un he]
   ·have h2:(Lib.indexByte l c.toUInt8 == -1)=false:=by simpa using h1
    rw[h2] at he;simp only[Bool.false_eq_true,if_false] at he;rw[ut h1,ut ii];omega
  ·have h:(b==c.toUInt8)=true:=by
    have e:=cW hb;have:b=c.toUInt8:=UInt8.toNat_inj.1 (by rw[hcc];exact e);rw[this];exact beq_self_eq_true _
   rw[h] at he;simp only[if_true] at he;rw[ar,he];simp
def N9.indexByte{P:Program}{f:FuncId}(hrun:∀(x:ByteArray) (c:Int) (w:World),(callFunc f #[.string x,.int .u8 c]).run P w=.ok (.value (.int .i64 (Lib.indexByte x.data.toList c.toNat.toUInt8))) w):N9 P f .indexByte:=by
 intro args h a h' hx σ w args' hv hr
 have hshape:∃s c,args=[.str s,.int .u8 (.ofNat c)]/\blt c 256=true/\a=.int .i64 (gr c s 0)/\h'=h:=by
  unfold xA at hx
  split at hx<;>first
   | (obtain⟨h1,h2⟩:=aF hx;cases h2;exact⟨_,_,rfl,h1,rfl,rfl⟩)
   | simp_all
 obtain⟨s,c,rfl,hc,rfl,rfl⟩:=hshape;obtain⟨x,y,rfl,h1,h2⟩:=FP hv
 cases h1 with
 | @str _ sx hs=>
  cases h2;rw[hrun sx _ w,<-hs,idx_eq c (gp hc)];have e:(ofNat c).toNat=c:=rfl;rw[e]
  have:(if Lib.indexByte sx.data.toList c.toUInt8 = -1 then -1 else Lib.indexByte sx.data.toList c.toUInt8+((0:Nat):Int))=Lib.indexByte sx.data.toList c.toUInt8:=by
   split
   ·rename_i h;exact h.symm
   ·omega
  rw[this];exact⟨_,_,rt rfl,σ,.int _ _,hr,.refl _ _ _⟩
def FG(σ:Sg)(h:H)(w:World)(Q:AV->H->Prop)(v:Value)(w':World):Prop:=∃a h',Q a h'/\∃σ',V σ' a v/\HR σ' h' w'/\Ext σ σ' h h' w w'
def ef(P:Program)(f:Fn)(args:List AV)(h:H)(Q:AV->H->Prop):Prop:=match f with
 | .func g=>∀σ w (args':Array Value),VL σ args args'.toList->HR σ h w->Dm P ((callFunc g args').run P w) (FG σ h w Q)
 | .yield id=>∀σ w p (args':Array Value),σ id=some p->VL σ args args'.toList->HR σ h w->Dm P ((Instr.yield p.b args').run P w) (FG σ h w Q)
 | _=>False
def FG.mono{σ:Sg}{h:H}{w:World}{Q Q':AV->H->Prop}{v:Value}{w':World}(hq:∀a h',Q a h'->Q' a h')(hg:FG σ h w Q v w'):FG σ h w Q' v w':=
 let ⟨a,h',h1,h2⟩:=hg;⟨a,h',hq _ _ h1,h2⟩
def ef.mono{P:Program}{f:Fn}{args:List AV}{h:H}{Q Q':AV->H->Prop}(hc:ef P f args h Q)(hq:∀a h',Q a h'->Q' a h'):ef P f args h Q':=by
 cases f with
 | func g=>exact λσ w args' hv hr=>(hc σ w args' hv hr).mono λv w' hg=>hg.mono hq
 | yield id=>exact λσ w p args' hp hv hr=>(hc σ w p args' hp hv hr).mono λv w' hg=>hg.mono hq
 | _=>exact hc.elim
def Br(f:Nat->AV)(d:Nat)(v:AV):Nat->AV:=λi=>_root_.cond (beq i d) v (f i)
def KC(f:Nat->AV)(d:Option Tmp)(v:AV):Nat->AV:=match d with
 | none=>f
 | some d=>Br f d v
def vy(f:Nat->AV)(d:Nat)(v:AV):Br f d v d=v:=by simp[Br]
def sj(f:Nat->AV){d i:Nat}(v:AV)(h:i≠d):Br f d v i=f i:=by
 unfold Br;cases hb:beq i d
 ·rfl
 ·exact ul (cW hb) h
noncomputable def eB(f:Nat->AV):Nat->Tr AV
 | 0=>.nil
 | n+1=>(eB f n).put n (some (f n))
def nD(f:Nat->AV):∀(n i:Nat),i<n->(eB f n).get i=some (f i)
 | 0,i,h=>by omega
 | n+1,i,h=>by
  unfold eB;by_cases e:i=n
  ·subst e;rw[c7]
  ·rw[bq _ _ e];exact nD f n i ii
def A3(f:Nat->AV):∀(n i:Nat),n<=i->(eB f n).get i=none
 | 0,i,_=>get_nil i
 | n+1,i,h=>by
  unfold eB;rw[bq _ _ ii];exact A3 f n i ii
def TU{f:Nat->AV}{n i:Nat}(h:i<n):ev (eB f n) (.tmp i)=some (f i):=by
 simp only[ev,nD f n i h]
def Rz{t:Tr AV}{f:FuncId}:ev t (.func f)=some (.fn (.func f) [] []):=rfl
structure iJ where
 f:Nat->AV
 n:Nat
 h:H
 ds:List kr
def TF(σ:Sg)(f:Nat->AV)(n:Nat)(tmps:Array Value):Prop:=tmps.size=n/\∀i,i<n->V σ (f i) (tmps.getD i undef)
structure SF (σ:Sg) (st:iJ) (a:Act) (w:World):Prop where
 t:TF σ st.f st.n a.tmps
 h:HR σ st.h w
 ds:SZ σ st.ds a.defers
def TF.mono{σ σ':Sg}(hle:∀id p,σ id=some p->σ' id=some p){f:Nat->AV}{n:Nat}{tmps:Array Value}(h:TF σ f n tmps):TF σ' f n tmps:=
 ⟨h.1,λi hi=>(h.2 i hi).mono hle⟩
def TF.tr{σ:Sg}{f:Nat->AV}{n:Nat}{tmps:Array Value}(h:TF σ f n tmps):TR σ (eB f n) n tmps:=by
 refine⟨h.1,λi=>?_⟩
 rcases Nat.lt_or_ge i n with hi | hi
 ·rw[nD f n i hi];exact h.2 i hi
 ·rw[A3 f n i hi]
  have:tmps.getD i undef=undef:=by
   rw[ay,c2 (by rw[h.1];exact hi)];rfl
  rw[this];exact V.mg
def TF.put{σ:Sg}{f:Nat->AV}{n:Nat}{a:Act}(h:TF σ f n a.tmps){d:Option Tmp}{x:AV}{v:Value}(hd:∀k,d=some k->k<n)(hv:V σ x v):TF σ (KC f d x) n (a.put d v).tmps:=by
 cases d with
 | none=>exact h
 | some d=>
  have:=TR.put (a:=a) h.tr (hd d rfl) hv;refine⟨this.1,λi hi=>?_⟩;have h2:=this.2 i;by_cases e:i=d
  ·subst e;rw[c7] at h2;rw[show KC f (some i) x i=x from vy _ _ _];exact h2
  ·rw[bq _ _ e,nD f n i hi] at h2;rw[show KC f (some d) x i=f i from sj _ _ e];exact h2
def SF.sr{σ:Sg}{st:iJ}{a:Act}{w:World}(h:SF σ st a w):SR σ ⟨eB st.f st.n,st.n,st.h,st.ds⟩ a w:=⟨h.t.tr,h.h,h.ds⟩
def zh(d:Option Tmp)(n:Nat):Bool:=match d with
 | none=>true
 | some d=>blt d n
def OO{d:Option Tmp}{n:Nat}(h:zh d n=true):∀k,d=some k->k<n:=by
 intro k e;subst e;exact gp h
def SF.put{σ σ':Sg}{f:Nat->AV}{n:Nat}{h h':H}{ds:List kr}{a:Act}{w w':World}(hs:SF σ ⟨f,n,h,ds⟩ a w)(hle:∀id p,σ id=some p->σ' id=some p){d:Option Tmp}(hd:zh d n=true){x:AV}{v:Value}(hv:V σ' x v)(hr:HR σ' h' w'):
 SF σ' ⟨KC f d x,n,h',ds⟩ (a.put d v) w':=
 ⟨(hs.t.mono hle).put (OO hd) hv,hr,by rw[put_defers];exact hs.ds.mono hle⟩
def NW(P:Program)(ro:Option Nat)(o:Oper)(st:iJ)(K:iJ->Prop):Prop:=∀(F:Fence) (n:Nat) (σ:Sg) (a:Act) (w:World) (next:Act->World->Prop) (Q:Exit->Act->World->Prop),SF σ st a w->Dl σ ro F->
 (∀st' a' w' σ',K st'->SF σ' st' a' w'->Ext σ σ' st.h st'.h w w'->st'.n=st.n->next a' w')->o.wpIn F n P a w next Q
def uC:Op->Bool
 | .defer _=>false
 | _=>true
def leaves(f:Nat->AV)(n:Nat)(ds:List kr)(d:Option Tmp)(x:Option AV×H):iJ:=⟨KC f d (match x.1 with | some v=>v | none=>mg),n,x.2,ds⟩
def NW.run{P:Program}{ro:Option Nat}{o:Oper}{f:Nat->AV}{m:Nat}{h:H}{ds:List kr}{K:iJ->Prop}{outs:List (Option AV×H)}(hnd:uC o.op=true)(hd:zh o.dst m=true)(ho:eH P (eB f m) h o.op=some outs)
 (hk:∀x∈outs,K (leaves f m ds o.dst x)):NW P ro o ⟨f,m,h,ds⟩ K:=by
 intro F n σ a w next Q hs hF hnext
 refine⟨λf _=>hF.fn f,?_⟩;have hρ:=hs.sr.t.ev;have hsem:o.semAt F.round a.eval=execOp a.eval o:=Oper.semAt_eq _ _ _ (λc' hc'=>by rw[hc'] at hnd;simp[uC] at hnd);rw[hsem];obtain⟨r,h',hm,σ',x,w',hrun,hres,hh',hext⟩:=Si (P:=P) hρ hs.h ho;rw[hrun];have hkk:=hk _ hm
 cases r with
 | some av=>
  obtain⟨v,rfl,hV⟩:=hres;exact hnext _ _ w' σ' hkk (hs.put hext.le hd hV hh') hext rfl
 | none=>
  have hres:x=.skip:=hres;subst hres;exact hnext _ _ w' σ' hkk (hs.put hext.le hd V.mg hh') hext rfl
def NW.call{P:Program}{ro:Option Nat}{o:Oper}{f:Nat->AV}{m:Nat}{h:H}{ds:List kr}{K:iJ->Prop}{c:Call}{g:Fn}{xs cap:List AV}{Q':AV->H->Prop}(hop:o.op=.call c)(hdy:gi (.call c)=true)(hd:zh o.dst m=true)(hc:pQ P (eB f m) c=some (g,xs,cap))
 (hq:ef P g (xs++cap) h Q') (hk:∀v h',Q' v h'->K ⟨KC f o.dst v,m,h',ds⟩):NW P ro o ⟨f,m,h,ds⟩ K:=by
 intro F n σ a w next Q hs hF hnext
 refine⟨λf _=>hF.fn f,?_⟩;have hρ:=hs.sr.t.ev;have hsem:o.semAt F.round a.eval=execOp a.eval o:=Oper.semAt_eq _ _ _ (λc' hc'=>by rw[hop] at hc';cases hc');rw[hsem]
 have hexec:(execOp a.eval o).run P w=((do let d <-resolve a.eval c o.type;invoke d.target d.args):Sem Next).run P w:=by
  cases c with
  | mk callee args ats=>cases callee with
   | builtin b=>simp[gi] at hdy
   | value g=>simp only[execOp,hop]
   | invoke r m=>simp only[execOp,hop]
 have fin:∀r,Dm P r (FG σ h w Q')->o.uponIn F n P a next Q r:=by
  intro r hf;refine SU hF hf ?_;rintro v w' ⟨av,h',hm,σ',hV,hh',hext⟩;exact hnext _ _ w' σ' (hk _ _ hm) (hs.put hext.le hd hV hh') hext rfl
 rw[hexec]
 rcases IT hc hρ o.type (w:=w) with⟨g,args',rfl,hv,he⟩ | ⟨id,p,args',rfl,hp,hv,he⟩ | ⟨h1,h2⟩
 ·rw[he];exact fin _ (hq _ _ _ hv hs.h)
 ·rw[he];exact fin _ (hq _ _ _ _ hp hv hs.h)
 ·cases g with
  | func g=>exact ul rfl (h1 g)
  | yield id=>exact ul rfl (h2 id)
  | _=>exact hq.elim
def jO(P:Program)(ro:Option Nat)(all l:List Oper)(st:iJ)(K:iJ->Prop):Prop:=∀(ops:Array Oper) (i:Nat),ops.toList=all->ops.toList.drop i=l->∀(F:Fence) (n:Nat) (σ:Sg) (a:Act) (w:World) (Q:Exit->Act->World->Prop),
 SF σ st a w->Dl σ ro F->(∀st' a' w' σ',K st'->SF σ' st' a' w'->Ext σ σ' st.h st'.h w w'->st'.n=st.n->Q .normal a' w')->wpOpsIn F n P ops Q (List.range' i l.length) a w
def jO.nil{P:Program}{ro:Option Nat}{all:List Oper}{st:iJ}{K:iJ->Prop}(h:K st):jO P ro all [] st K:=
 λ_ _ _ _ _ _ σ a w _ hs _ hQ=>hQ st a w σ h hs (.refl _ _ _) rfl
def Ch{ops:Array Oper}{i:Nat}{o:Oper}{l:List Oper}(hd:ops.toList.drop i=o::l):ops[i]?=some o/\ops.toList.drop (i+1)=l:=by
 refine⟨?_,?_⟩
 ·rw[<-aa];have:=rc (λl=>l[0]?) hd;simpa using this
 ·have:=rc List.tail hd;simpa [List.tail_drop] using this
def lu(ops:List Oper)(f:Nat->AV)(n:Nat)(o:Oper):Option Bool:=match o.guard with
 | none=>some true
 | some (j,want)=>match (ops[j]?).bind (·.dst) with
  | some d=>_root_.cond (blt d n) (match f d with
   | .bool b=>some (b==want)
   | .cq []=>some false
   | _=>none) none
  | none=>none
def Di{ops:List Oper}{f:Nat->AV}{n:Nat}{o:Oper}{b:Bool}(h:lu ops f n o=some b):vB ops (eB f n) n o=some b:=by
 unfold lu at h;unfold vB;split at h
 ·rename_i hg;rw[hg];exact h
 ·rename_i j want hg;rw[hg];simp only;split at h
  ·rename_i d hd;obtain⟨hlt,h2⟩:=aF h;rw[hd];simp only;rw[hlt,ar,nD f n d (gp hlt)];split at h2
   ·rename_i x hx;rw[hx];exact h2
   ·rename_i hx;rw[hx];exact h2
   ·simp at h2
  ·simp at h
def jO.cons{P:Program}{ro:Option Nat}{all:List Oper}{o:Oper}{l:List Oper}{st:iJ}{K:iJ->Prop}(hw:lu all st.f st.n o=some true)(h:NW P ro o st (λst'=>jO P ro all l st' K)):jO P ro all (o::l) st K:=by
 intro ops i ha hdd F n σ a w Q hs hF hQ;obtain⟨hoi,hdr⟩:=Ch hdd;rw[i7,fv];simp only[wpOpsIn,hoi];have hwt:=Bq (by rw[ha];exact Di hw) hs.t.tr;rw[hwt];simp only[if_true];refine h F n σ a w _ Q hs hF ?_;intro st' a' w' σ' hK hs' hE' hn';exact hK ops (i+1) ha hdr F n σ' a' w' Q hs' (hF.mono hE'.le) λst'' a'' w'' σ'' h1 h2 h3 h4=>hQ st'' a'' w'' σ'' h1 h2 (hE'.trans h3) (h4.trans hn')
def jO.skip{P:Program}{ro:Option Nat}{all:List Oper}{o:Oper}{l:List Oper}{f:Nat->AV}{m:Nat}{h:H}{ds:List kr}{K:iJ->Prop}(hw:lu all f m o=some false)(hd:zh o.dst m=true)(hk:jO P ro all l ⟨KC f o.dst mg,m,h,ds⟩ K):jO P ro all (o::l) ⟨f,m,h,ds⟩ K:=by
 intro ops i ha hdd F n σ a w Q hs hF hQ;obtain⟨hoi,hdr⟩:=Ch hdd;rw[i7,fv];simp only[wpOpsIn,hoi];have hwt:=Bq (by rw[ha];exact Di hw) hs.t.tr;rw[hwt];simp only[aY,if_false];refine⟨λf _=>hF.fn f,?_⟩;exact hk ops (i+1) ha hdr F n σ _ w Q (hs.put (λ_ _ h=>h) hd V.mg hs.h) hF λst'' a'' w'' σ'' h1 h2 h3 h4=>hQ st'' a'' w'' σ'' h1 h2 h3 h4
def Ca(σ:Sg)(h:H)(w:World)(N:Nat)(Q:Ex->iJ->Prop):Exit->Act->World->Prop:=λe a' w'=>
 ∃ex st',Q ex st'/\WU ex e/\∃σ',SF σ' st' a' w'/\Ext σ σ' h st'.h w w'/\st'.n=N
def mh(P:Program)(ro:Option Nat)(c:Code)(st:iJ)(Q:Ex->iJ->Prop):Prop:=∀(F:Fence) (n:Nat) (σ:Sg) (a:Act) (w:World),SF σ st a w->Dl σ ro F->c.wpIn F n P (Ca σ st.h w st.n Q) a w
def mh.wide{P:Program}{ro:Option Nat}{c:Code}{st:iJ}{Q:Ex->iJ->Prop}(h:mh P ro c st Q){F:Fence}{n:Nat}{σ σ0:Sg}{a:Act}{w w0:World}{h0:H}{N:Nat}(hs:SF σ st a w)(hF:Dl σ ro F)(hE:Ext σ0 σ h0 st.h w0 w)(hN:st.n=N):
 c.wpIn F n P (Ca σ0 h0 w0 N Q) a w:=
 wpIn_mono (h F n σ a w hs hF) λ_ _ _ ⟨ex,st',h1,h2,σ',h3,h4,h5⟩=>⟨ex,st',h1,h2,σ',h3,hE.trans h4,h5.trans hN⟩
def mh.mono{P:Program}{ro:Option Nat}{c:Code}{st:iJ}{Q Q':Ex->iJ->Prop}(h:mh P ro c st Q)(hq:∀e x,Q e x->Q' e x):mh P ro c st Q':=
 λF n σ a w hs hF=>wpIn_mono (h F n σ a w hs hF) λ_ _ _ ⟨ex,st',h1,h2⟩=>⟨ex,st',hq _ _ h1,h2⟩
def mh.skip{P:Program}{ro:Option Nat}{st:iJ}{Q:Ex->iJ->Prop}(h:Q .normal st):mh P ro .skip st Q:=λ_ _ _ _ _ hs _=>wpIn_skip ⟨.normal,st,h,rfl,_,hs,.refl _ _ _,rfl⟩
def mh.exit{P:Program}{ro:Option Nat}{id:Nat}{st:iJ}{Q:Ex->iJ->Prop}(h:Q (.exit id) st):mh P ro (.exit id) st Q:=λ_ _ _ _ _ hs _=>wpIn_exit ⟨.exit id,st,h,rfl,_,hs,.refl _ _ _,rfl⟩
def mh.ret{P:Program}{ro:Option Nat}{st:iJ}{Q:Ex->iJ->Prop}(h:Q .ret st):mh P ro .ret st Q:=λ_ _ _ _ _ hs _=>wpIn_ret ⟨.ret,st,h,rfl,_,hs,.refl _ _ _,rfl⟩
def mh.region{P:Program}{ro:Option Nat}{id:Nat}{ops:Array Oper}{st:iJ}{Q:Ex->iJ->Prop}(h:jO P ro ops.toList ops.toList st (Q .normal)):mh P ro (.region id ops false) st Q:=by
 intro F n σ a w hs hF;refine wpIn_region ?_;have:=h ops 0 rfl rfl F n σ a w (Ca σ st.h w st.n Q) hs hF λst' a' w' σ' h1 h2 h3 h4=>⟨.normal,st',h1,rfl,σ',h2,h3,h4⟩;rw[List.range_eq_range'];simpa using this
def VN(P:Program)(ro:Option Nat)(y:Code)(Q:Ex->iJ->Prop):Ex->iJ->Prop
 | .normal,st=>mh P ro y st Q
 | e,st=>Q e st
def mh.seq{P:Program}{ro:Option Nat}{x y:Code}{st:iJ}{Q:Ex->iJ->Prop}(h:mh P ro x st (VN P ro y Q)):mh P ro (.seq x y) st Q:=by
 intro F n σ a w hs hF;refine wpIn_seq (wpIn_mono (h F n σ a w hs hF) ?_);rintro e a' w' ⟨ex,st',hq,hex,σ',hs',hE',hn'⟩
 cases ex with
 | normal=>
  have:e=.normal:=hex;subst this;exact mh.wide (st:=st') hq hs' (hF.mono hE'.le) hE' hn'
 | ret=>
  have:e=.ret:=hex;subst this;exact⟨_,st',hq,rfl,σ',hs',hE',hn'⟩
 | exit id=>
  have:e=.exit id:=hex;subst this;exact⟨_,st',hq,rfl,σ',hs',hE',hn'⟩
 | goto l=>
  have:e=.goto l:=hex;subst this;exact⟨_,st',hq,rfl,σ',hs',hE',hn'⟩
def mh.cond{P:Program}{ro:Option Nat}{c:Operand}{x y:Code}{st:iJ}{Q:Ex->iJ->Prop}{b:Bool}(hc:ev (eB st.f st.n) c=some (.bool b))(h1:b=true->mh P ro x st Q)(h2:b=false->mh P ro y st Q):mh P ro (.cond c x y) st Q:=by
 intro F n σ a w hs hF;have hv:=hs.sr.t.ev _ _ hc;generalize hg:a.eval c=v at hv;cases hv;cases b
 ·exact wpIn_cond_false hg (h2 rfl F n σ a w hs hF)
 ·exact wpIn_cond_true hg (h1 rfl F n σ a w hs hF)
def N2(id:Nat)(Q:Ex->iJ->Prop):Ex->iJ->Prop
 | .exit i,st=>if i=id then Q .normal st else Q (.exit i) st
 | e,st=>Q e st
def mh.block{P:Program}{ro:Option Nat}{id:Nat}{x:Code}{st:iJ}{Q:Ex->iJ->Prop}(h:mh P ro x st (N2 id Q)):mh P ro (.block id x) st Q:=by
 intro F n σ a w hs hF;refine wpIn_block (wpIn_mono (h F n σ a w hs hF) ?_);rintro e a' w' ⟨ex,st',hq,hex,σ',hs',hE',hn'⟩
 cases ex with
 | normal=>
  have:e=.normal:=hex;subst this;exact⟨_,st',hq,rfl,σ',hs',hE',hn'⟩
 | ret=>
  have:e=.ret:=hex;subst this;exact⟨_,st',hq,rfl,σ',hs',hE',hn'⟩
 | goto l=>
  have:e=.goto l:=hex;subst this;exact⟨_,st',hq,rfl,σ',hs',hE',hn'⟩
 | exit id'=>
  have:e=.exit id':=hex;subst this;simp only[Exit.inBlock];simp only[N2] at hq;by_cases hb:id'=id
  ·rw[un hb] at hq ⊢;exact⟨_,st',hq,rfl,σ',hs',hE',hn'⟩
  ·rw[ut hb] at hq ⊢;exact⟨_,st',hq,rfl,σ',hs',hE',hn'⟩
def sF{F:Fence}{n:Nat}{P:Program}{c:Code}{Q:Exit->Act->World->Prop}:∀{k m:Nat},k<=m->∀{a:Act} {w:World},Code.roundsIn F n P c Q k a w->Code.roundsIn F n P c Q m a w
 | 0,_,_,_,_,h=>h.elim
 | k+1,0,hk,_,_,_=>by omega
 | k+1,m+1,hk,a,w,h=>by
  rw[roundsIn_succ] at h ⊢;refine wpIn_mono h λe a w hq=>?_
  cases e with
  | normal=>exact sF ii hq
  | _=>exact hq
def Round(I:Nat->iJ->Prop)(m:Nat)(Q:Ex->iJ->Prop):Ex->iJ->Prop
 | .normal,st=>∃k,k<m/\I k st
 | e,st=>Q e st
def mh.loop{P:Program}{ro:Option Nat}{x:Code}{st:iJ}{Q:Ex->iJ->Prop}(I:Nat->iJ->Prop)(m:Nat)(h0:I m st)(h:∀m st,I m st->mh P ro x st (Round I m Q)):mh P ro (.loop x) st Q:=by
 intro F n σ a w hs hF
 have key:∀(m:Nat) (st1:iJ),I m st1->st1.n=st.n->∀(σ1:Sg) (a1:Act) (w1:World),SF σ1 st1 a1 w1->Ext σ σ1 st.h st1.h w w1->Code.roundsIn F n P x (Ca σ st.h w st.n Q) (m+1) a1 w1:=by
  intro m
  induction m using Nat.strongRecOn with
  | _ m ih=>
   intro st1 hI hn1 σ1 a1 w1 hs1 hE1;rw[roundsIn_succ];refine wpIn_mono (mh.wide (h m st1 hI) hs1 (hF.mono hE1.le) hE1 hn1) ?_;rintro e a' w' ⟨ex,st',hq,hex,σ',hs',hE',hn'⟩
   cases ex with
   | normal=>
    have:e=.normal:=hex;subst this;obtain⟨k,hk,hI'⟩:=hq;exact sF ii (ih k hk st' hI' hn' σ' a' w' hs' hE')
   | ret=>
    have:e=.ret:=hex;subst this;exact⟨_,st',hq,rfl,σ',hs',hE',hn'⟩
   | goto l=>
    have:e=.goto l:=hex;subst this;exact⟨_,st',hq,rfl,σ',hs',hE',hn'⟩
   | exit id'=>
    have:e=.exit id':=hex;subst this;exact⟨_,st',hq,rfl,σ',hs',hE',hn'⟩
 exact wpIn_loop_rounds (m+1) (key m st h0 rfl σ a w hs (.refl _ _ _))
def sn(args:List AV):Nat->AV:=λi=>match args[i]? with
 | some v=>v
 | none=>mg
def KL{σ:Sg}{args:List AV}{args':Array Value}(h:VL σ args args'.toList)(nt:Nat):TF σ (sn args) (args.length+(nt-args.length)) (args'++fy (nt-args'.size) undef):=by
 have ht:=OS h nt;refine⟨ht.1,λi hi=>?_⟩;have:=ht.2 i;rw[sT] at this;unfold sn;by_cases hl:i<args.length
 ·rw[un ii] at this;rw[e5] at this
  cases hx:args[i]? with
  | none=>rw[List.getElem?_eq_none_iff] at hx;omega
  | some v=>rw[hx] at this;exact this
 ·rw[ut ii,get_nil] at this;rw[a9 ii];exact this
theorem jO.v{P:Program}{ro:Option Nat}{all:List Oper}{o:Oper}{l:List Oper}{f:Nat->AV}{n:Nat}{h h':H}{ds:List kr}{K:iJ->Prop}{d:Nat}{op:Op}{v:AV}(hop:o.op=op)(hdst:o.dst=some d)(hw:lu all f n o=some true)(hnd:uC op=true)(hd:blt d n=true)
 (ho:eH P (eB f n) h op=some [(some v,h')]) (hk:jO P ro all l ⟨Br f d v,n,h',ds⟩ K):jO P ro all (o::l) ⟨f,n,h,ds⟩ K:=by
 refine .cons hw (.run (by rw[hop];exact hnd) (by rw[hdst];exact hd) (by rw[hop];exact ho) ?_);intro x hx;rw[rx hx,hdst];exact hk
theorem jO.s{P:Program}{ro:Option Nat}{all:List Oper}{o:Oper}{l:List Oper}{f:Nat->AV}{n:Nat}{h:H}{ds:List kr}{K:iJ->Prop}{d:Nat}(hdst:o.dst=some d)(hw:lu all f n o=some false)(hd:blt d n=true)
 (hk:jO P ro all l ⟨Br f d mg,n,h,ds⟩ K):jO P ro all (o::l) ⟨f,n,h,ds⟩ K:=by
 refine .skip hw (by rw[hdst];exact hd) ?_;rw[hdst];exact hk
theorem jO.c{P:Program}{ro:Option Nat}{all:List Oper}{o:Oper}{l:List Oper}{f:Nat->AV}{n:Nat}{h:H}{ds:List kr}{K:iJ->Prop}{d:Nat}{c:Call}{g:Fn}{xs cap ys:List AV}{Q:AV->H->Prop}(hop:o.op=.call c)(hdst:o.dst=some d)(hw:lu all f n o=some true)(hdy:gi (.call c)=true)(hd:blt d n=true)
 (hc:pQ P (eB f n) c=some (g,xs,cap)) (hys:xs++cap=ys) (hq:ef P g ys h Q) (hk:∀v h',Q v h'->jO P ro all l ⟨Br f d v,n,h',ds⟩ K):jO P ro all (o::l) ⟨f,n,h,ds⟩ K:=by
 subst hys;refine .cons hw (.call hop hdy (by rw[hdst];exact hd) hc hq ?_);intro v h' hv;rw[hdst];exact hk v h' hv
def gM(a b:Int):tF a b=decide (a<=b):=by
 unfold tF
 rcases hb:b-a with m | m
 ·have h2:b-a=(m:Int):=hb
  have:a<=b:=by omega
  simp[this]
 ·have h2:b-a = -((m:Int)+1):=by rw[hb,Int.negSucc_eq]
  have:¬a<=b:=by omega
  simp[this]
def not_le(a b:Int):(!decide (a<=b))=decide (b<a):=by
 by_cases h:a<=b
 ·have:¬b<a:=by omega
  simp[h,this]
 ·have:b<a:=by omega
  simp[h,this]
def ta(a b:Int):Ry a b=decide (a=b):=by
 unfold Ry;rw[gM,gM];by_cases h:a=b
 ·subst h;simp
 ·have:¬(a<=b/\b<=a):=by omega
  simp only[h,decide_false];by_cases h1:a<=b
  ·have:¬b<=a:=by omega
   simp[this]
  ·simp[h1]
def lU:∀(a b:List Nat),vO a b=decide (a=b)
 | [],[]=>rfl
 | [],_::_=>rfl
 | _::_,[]=>rfl
 | x::a,y::b=>by
  have:=lU a b;simp only[vO,this];by_cases h:x=y
  ·subst h;simp
  ·have:beq x y=false:=by
    cases hb:beq x y
    ·rfl
    ·exact ul (cW hb) h
   simp[this,h]
def KR{P:Program}{t:TypeId}{a b:Int}{k:IntKind}(hk:BE k k=true):dj P .lss t (.int k a) (.int k b)=some (.bool (decide (a<b))):=by
 simp only[dj,hk,ar,DH,gM,not_le]
def DB{P:Program}{t:TypeId}{a b:Int}{k:IntKind}(hk:BE k k=true):dj P .leq t (.int k a) (.int k b)=some (.bool (decide (a<=b))):=by
 simp only[dj,hk,ar,DH,gM]
def KQ{P:Program}{t:TypeId}{a b:Int}{k:IntKind}(hk:BE k k=true):dj P .gtr t (.int k a) (.int k b)=some (.bool (decide (b<a))):=by
 simp only[dj,hk,ar,DH,gM,not_le]
def KP{P:Program}{t:TypeId}{a b:Int}{k:IntKind}(hk:BE k k=true):dj P .geq t (.int k a) (.int k b)=some (.bool (decide (b<=a))):=by
 simp only[dj,hk,ar,DH,gM]
def DA{P:Program}{t:TypeId}{a b:Int}{k:IntKind}(hk:BE k k=true):dj P .eql t (.int k a) (.int k b)=some (.bool (decide (a=b))):=by
 simp only[dj,hk,ar,DH,ta]
def tO{P:Program}{t:TypeId}{a b:Int}{k:IntKind}(hk:BE k k=true):dj P .neq t (.int k a) (.int k b)=some (.bool (!decide (a=b))):=by
 simp only[dj,hk,ar,DH,ta]
def ym{P:Program}{t:TypeId}{a b:Int}(h : -9223372036854775808<=a+b/\a+b<=9223372036854775807):dj P .add t (.int .i64 a) (.int .i64 b)=some (.int .i64 (a+b)):=by
 have h1:(tF (-9223372036854775808) (a+b)&&tF (a+b) 9223372036854775807)=true:=by
  rw[gM,gM];simp[h.1,h.2]
 simp only[dj,BE,ar,dE,Pq,Pe,h1]
def KT{P:Program}{t:TypeId}{a b:Int}(h : -9223372036854775808<=a-b/\a-b<=9223372036854775807):dj P .sub t (.int .i64 a) (.int .i64 b)=some (.int .i64 (a-b)):=by
 have h1:(tF (-9223372036854775808) (a-b)&&tF (a-b) 9223372036854775807)=true:=by
  rw[gM,gM];simp[h.1,h.2]
 simp only[dj,BE,ar,dE,Pq,Pe,h1]
def Oq{P:Program}{t:TypeId}{a b:List Nat}:dj P .eql t (.str a) (.str b)=some (.bool (decide (a=b))):=by
 simp only[dj,lU]
def Ow{P:Program}{t:TypeId}{a b:List Nat}:dj P .neq t (.str a) (.str b)=some (.bool (!decide (a=b))):=by
 simp only[dj,lU]
def Ov{P:Program}{t:TypeId}{a b:List Nat}:dj P .lss t (.str a) (.str b)=some (.bool (fO a b)):=rfl
def Ot{P:Program}{t:TypeId}{a b:List Nat}:dj P .gtr t (.str a) (.str b)=some (.bool (!(fO a b||vO a b))):=rfl
def yX{P:Program}{t:TypeId}{a b:List Nat}:dj P .geq t (.str a) (.str b)=some (.bool (!fO a b)):=rfl
def Ou{P:Program}{t:TypeId}{a b:List Nat}:dj P .leq t (.str a) (.str b)=some (.bool (fO a b||vO a b)):=rfl
def Cy:BE .i64 .i64=true:=rfl
def MQ:BE .u8 .u8=true:=rfl
section
variable {P:Program} {t:Tr AV} {h:H}
def Sn{x:Operand}:eH P t h (.move x)=(ev t x).map λv=>[(some v,h)]:=rfl
def M9{x:Operand}:eH P t h (.assign x)=(ev t x).map λv=>[(some v,h)]:=rfl
noncomputable def P1(c a b:Option AV):Option AV:=match c,a,b with
 | some (.bool z),some x,some y=>some (_root_.cond z x y)
 | _,_,_=>none
def Sp{c a b:Operand}:eH P t h (.pick c a b)=(P1 (ev t c) (ev t a) (ev t b)).map λv=>[(some v,h)]:=by
 simp only[eH];unfold P1;cases ha:ev t a<;>cases hb:ev t b<;>cases hc:ev t c<;>(try rfl)
 ·rename_i z;cases z<;>rfl
 ·rename_i z;cases z<;>rfl
 ·rename_i z;cases z<;>rfl
 ·rename_i z;cases z<;>(try rfl);rename_i b;cases b<;>rfl
def PQ{e:TypeId}:eH P t h (.alloc e)=(dm P e).map λz=>[(some (.ptr (some (h.next,0))),{ h.lay h.next (.cells z.cells h.next) with next:=h.next+1 })]:=by
 simp only[eH,pK];cases dm P e<;>rfl
def Uf{e:TypeId}{x:Operand}:eH P t h (.box e x)=(ev t x).map λv=>[(some (.ptr (some (h.next,0))),{ h.lay h.next (.cells v.cells h.next) with next:=h.next+1 })]:=by
 simp only[eH,pK];cases ev t x<;>rfl
def Jz{tt:TypeId}:eH P t h (.makeMap tt none)=some [(some (.map (some h.next)),{ h.lay h.next (.map [] 0) with next:=h.next+1 })]:=rfl
def BJ{tt:TypeId}{n:Nat}{ps:Array (Nat×Operand)}:eH P t h (.buildSlice tt n ps)=((lZ t ps.toList).bind λps=>(ic P tt n ps).map λq=>((.slice (some (h.next,0)) n q.1 (some n),.cells q.2 h.next):AV×AO)).map λx=>[(some x.1,{ h.lay h.next x.2 with next:=h.next+1 })]:=by
 simp only[eH,pK]
 cases hp:lZ t ps.toList with
 | none=>rfl
 | some l=>cases hb:ic P tt n l<;>simp[hb]
def PT{tt:TypeId}{ps:Array (Nat×Operand)}:eH P t h (.build tt ps)=((lZ t ps.toList).bind λps=>vL P tt ps).map λv=>[(some v,h)]:=rfl
noncomputable def D6(P:Program)(h:H)(tt:TypeId):Option AV->Option AV
 | some (.ptr (some (id,off)))=>h.load P tt id off
 | _=>none
def Sl{tt:TypeId}{a:Operand}:eH P t h (.load tt a)=(D6 P h tt (ev t a)).map λv=>[(some v,h)]:=by
 simp only[eH]
 cases ev t a with
 | none=>rfl
 | some v=>cases v<;>(try rfl);rename_i o;rcases o with _ | ⟨id,off⟩<;>rfl
def CF{tt:TypeId}{id off:Nat}:D6 P h tt (some (.ptr (some (id,off))))=h.load P tt id off:=rfl
noncomputable def EE(P:Program)(h:H)(tt:TypeId):Option AV->Option AV->Option H
 | some (.ptr (some (id,off))),some x=>h.storeVar P tt id off x
 | _,_=>none
def PY{tt:TypeId}{a x:Operand}:eH P t h (.store tt a x)=(EE P h tt (ev t a) (ev t x)).map λh=>[(none,h)]:=by
 simp only[eH]
 cases ev t a with
 | none=>rfl
 | some v=>cases v<;>(try rfl);rename_i o;rcases o with _ | ⟨id,off⟩<;>(try rfl);cases ev t x<;>rfl
def JP{tt:TypeId}{id off:Nat}{x:AV}:EE P h tt (some (.ptr (some (id,off)))) (some x)=h.storeVar P tt id off x:=rfl
def PS{op:BinOp}{xt yt:TypeId}{x y:Operand}:eH P t h (.binOp op xt x y yt)=((ev t x).bind λx=>(ev t y).bind λy=>dj P op xt x y).map λv=>[(some v,h)]:=rfl
def U1{op:UnOp}{xt:TypeId}{x:Operand}:eH P t h (.unOp op xt x)=((ev t x).bind (Uv op)).map λv=>[(some v,h)]:=rfl
def Uw{b:Bool}:Uv .not (.bool b)=some (.bool (!b)):=rfl
def Sj{s d:TypeId}{x:Operand}:eH P t h (.convert s d x)=((ev t x).bind (mZ P s d)).map λv=>[(some v,h)]:=rfl
def Ek{s:TypeId}{x:Operand}{f:Nat}:eH P t h (.fieldAddr s x f)=((ev t x).bind λx=>jz P s x f).map λv=>[(some v,h)]:=rfl
def PU{s:TypeId}{x:Operand}{f:Nat}:eH P t h (.field s x f)=((ev t x).bind λx=>vR P s x f).map λv=>[(some v,h)]:=rfl
def El{s:TypeId}{x i:Operand}:eH P t h (.indexAddr s x i)=((ev t x).bind λx=>(ev t i).bind λi=>kP P s x i).map λv=>[(some v,h)]:=rfl
def PW{s:TypeId}{x i:Operand}:eH P t h (.index s x i)=((ev t x).bind λx=>(ev t i).bind λi=>vX P s x i).map λv=>[(some v,h)]:=rfl
def PX{tt:TypeId}{x:Operand}{lo hi mx:Option Operand}:eH P t h (.slice tt x lo hi mx)=((ev t x).bind λx=>(OW t lo).bind λlo=>(OW t hi).bind λhi=>(OW t mx).bind λmx=>wJ P h tt x lo hi mx).map λv=>[(some v,h)]:=rfl
def Nb{tt:TypeId}{x k:Operand}{ok:Bool}:eH P t h (.lookup tt x k ok)=((ev t x).bind λx=>(ev t k).bind λk=>rX P h tt x k ok).map λv=>[(some v,h)]:=rfl
def Em{tt:TypeId}{m k x:Operand}:eH P t h (.mapUpdate tt m k x)=((ev t m).bind λm=>(ev t k).bind λk=>(ev t x).bind λx=>kW P h tt m k x).map λh=>[(none,h)]:=rfl
def Hd{tt:TypeId}{x:Operand}:eH P t h (.range tt x)=((ev t x).bind λx=>wG P h tt x).map λx=>[(some x.1,x.2)]:=rfl
def Hc{x:Operand}:eH P t h (.entry x)=((ev t x).bind λx=>vN h x).map λv=>[(some v,h)]:=rfl
noncomputable def Cj(i:Nat):Option AV->Option AV
 | some (.cq vs)=>vs[i]?
 | _=>none
def Jy{x:Operand}{i:Nat}:eH P t h (.extract x i)=(Cj i (ev t x)).map λv=>[(some v,h)]:=by
 simp only[eH]
 cases ev t x with
 | none=>rfl
 | some v=>cases v<;>rfl
def PV{xt:TypeId}{x:Operand}{d:TypeDesc}(hd:P.underlying xt=some d)(hi:(match d with | .interface _=>false | _=>true)=true):eH P t h (.makeInterface xt x)=(ev t x).map λv=>[(some (.iface xt v),h)]:=by
 simp only[eH,hd]
 cases d<;>first | (simp at hi;done) | (cases ev t x<;>rfl)
def Sk{g:FuncId}{first cap:Array Operand}:eH P t h (.makeFunc (.func g) first cap)=((Bz t first.toList).bind λa=>(Bz t cap.toList).map λb=>AV.fn (.func g) a b).map λv=>[(some v,h)]:=rfl
def Jx{b:Builtin}{aS:Array Operand}{ats:Array TypeId}:eH P t h (.call { callee:=.builtin b,args:=aS,argTypes:=ats })=((Bz t aS.toList).bind λxs=>mY P h b ats.toList xs).map λx=>[(some x.1,x.2)]:=rfl
def D5{tt:TypeId}(hu:P.underlying tt=some .string){s:List Nat}:GN P h tt (.str s)=some (.int .i64 (s.length:Int)):=by
 simp only[GN,hu,m6,Int.ofNat_eq_natCast]
end
def OX(t:Tr AV)(x:Operand)(l:List Operand):Bz t (x::l)=(ev t x).bind λa=>(Bz t l).map λb=>a::b:=by
 simp only[Bz,cv]
 cases ev t x with
 | none=>rfl
 | some a=>cases h:mapM (ev t) l<;>simp_all
def Hi(t:Tr AV)(i:Nat)(x:Operand)(l:List (Nat×Operand)):lZ t ((i,x)::l)=(ev t x).bind λa=>(lZ t l).map λb=>(i,a)::b:=by
 simp only[lZ,cv]
 cases ev t x with
 | none=>rfl
 | some a=>cases h:mapM (λp:Nat×Operand=>Option.map (λv=>(p.1,v)) (ev t p.2)) l<;>simp_all
def rM(a b:Nat):decide ((a:Int)<=(b:Int))=ble a b:=by
 by_cases h:a<=b
 ·have:(a:Int)<=b:=by omega
  simp[this,fj h]
 ·have h2:¬(a:Int)<=b:=by omega
  have:ble a b=false:=by
   cases hb:ble a b
   ·rfl
   ·exact ul (jy hb) h
  simp[h2,this]
noncomputable def VD:Option AV->AV
 | some v=>v
 | none=>mg
structure Dq where
 f:Nat->AV
 c:H
 xs:List (Nat×AO)
 al:List (Nat×AO)
 m:Nat
 cs:List (Nat×Nat×H)
 rd:List (Nat×(H->R (Option AV×H))×AV)
def V4:AO->Option (List AV)
 | .cells cs _=>some cs
 | .ro cs=>some cs
 | _=>none
def sw(o:Tr AO)(id:Nat):Option (List AV):=(o.get id).bind V4
def lS(cs:List AV)(off n:Nat):Option (List AV):=cond (ble (off+n) cs.length) (some ((cs.drop off).take n)) none
section
variable {P:Program} {h:H}
def mK{id off n:Nat}:h.chunk id off n=(sw h.aU id).bind λcs=>lS cs off n:=by
 unfold H.chunk sw
 cases h.aU.get id with
 | none=>rfl
 | some o=>cases o<;>rfl
end
def pX{s:Nat}:∀{rows:List (List AV)},(∀r∈rows,r.length=s)->∀{i:Nat} {r:List AV},rows[i]?=some r->∀{k:Nat},k<s->rows.flatten[i*s+k]?=r[k]?
 | [],_,i,r,hi,k,_=>by simp at hi
 | a::rows,hw,0,r,hi,k,hk=>by
  simp at hi;subst hi;have:=hw a (aj ..);rw[ba,Nat.zero_mul,b5,am ii]
 | a::rows,hw,i+1,r,hi,k,hk=>by
  rw[ac] at hi;have ha:=hw a (aj ..);have ih:=pX (λr hr=>hw r (ad _ hr)) hi hk;rw[ba,aJ (by rw[ha,ci];omega),ha];rw[show(i+1)*s+k-s=i*s+k by rw[ci];omega];exact ih
def jU{s:Nat}:∀{rows:List (List AV)},(∀r∈rows,r.length=s)->rows.flatten.length=rows.length*s
 | [],_=>by simp
 | a::rows,hw=>by
  have ha:=hw a (aj ..);have ih:=jU (λr hr=>hw r (ad _ hr));rw[ba,li,ih,ha,i7,ci];omega
def Pg{α:Type}{l:List α}{i:Nat}{x:α}(h:l[i]?=some x):i<l.length:=(rg h).1
def Ci(n:Nat)(s:List Nat):ik (n+1) (.str s) (.str s)=true:=by
 simp only[ik,lU,decide_true]
def MH(n:Nat)(k:IntKind)(i:Int):ik (n+1) (.int k i) (.int k i)=true:=by
 simp only[ik,ta,decide_true,Bool.and_true];cases k<;>rfl
def I3(n:Nat)(b:Bool):ik (n+1) (.bool b) (.bool b)=true:=by
 simp only[ik,beq_self_eq_true]
def MG(n:Nat)(l:List AV)(h:gn (ik n) l l=true):ik (n+1) (.agg l) (.agg l)=true:=h
def wq{a b:Nat}(h:a<=b):iA a b=a:=by unfold iA;rw[fj h,ar]
def ef.VX{P:Program}{g:FuncId}{k:XK}(hx:N9 P g k){args:List AV}{h:H}{a:AV}{h':H}(ha:xA k args h=some (a,h')):ef P (.func g) args h (λa' h''=>a'=a/\h''=h'):=
 λσ w args' hv hr=>(hx args h a h' ha σ w args' hv hr).mono λv w' ⟨a',h'',hm,hg⟩=>⟨a',h'',by simpa using hm,hg⟩
def Mn(l:List AV):AV.cells (.agg l)=l:=rfl
section
variable {K U:Type} [DecidableEq K]
def wD(k:K):List (K×U)->Nat->Option Nat
 | [],_=>none
 | e::l,j=>if k=e.1 then some j else wD k l (j+1)
def getM(u0:U)(k:K):List (K×U)->U
 | []=>u0
 | e::l=>if k=e.1 then e.2 else getM u0 k l
def dx(k:K)(l:List (K×U)):Bool:=l.any λe=>decide (k=e.1)
def cu(k:K)(v:U):List (K×U)->List (K×U)
 | []=>[(k,v)]
 | e::l=>if k=e.1 then (k,v)::l else e::cu k v l
def sa{k:K}:∀{l:List (K×U)} {j:Nat},wD k l j=none->dx k l=false
 | [],_,_=>rfl
 | e::l,j,h=>by
  unfold wD at h;split at h
  ·cases h
  ·rename_i hne;have:=sa h;simp only[dx,bw,hne,decide_false,Bool.false_or] at this ⊢;exact this
def pk{k:K}:∀{l:List (K×U)} {j i:Nat},wD k l j=some i->j<=i/\∃u,l[i-j]?=some (k,u)/\(∀u0,getM u0 k l=u)/\(∀v,cu k v l=l.set (i-j) (k,v))/\dx k l=true
 | [],_,_,h=>by cases h
 | e::l,j,i,h=>by
  unfold wD at h;split at h
  ·rename_i he;cases h;refine⟨Nat.le_refl _,e.2,?_,λu0=>?_,λv=>?_,?_⟩
   ·rw[Nat.sub_self,List.getElem?_cons_zero];rw[he]
   ·simp only[getM,he,if_true]
   ·rw[Nat.sub_self];simp only[cu,he,if_true,List.set_cons_zero]
   ·simp only[dx,List.any_cons,he,decide_true,Bool.true_or]
  ·rename_i hne;obtain⟨h1,u,h2,h3,h4,h5⟩:=pk h
   have e1:i-j=(i-(j+1))+1:=by omega
   refine⟨by omega,u,?_,λu0=>?_,λv=>?_,?_⟩
   ·rw[e1,List.getElem?_cons_succ];exact h2
   ·simp only[getM,hne,if_false];exact h3 u0
   ·rw[e1];simp only[cu,hne,if_false,List.set_cons_succ];rw[h4]
   ·simp only[dx,List.any_cons] at h5 ⊢;rw[h5,Bool.or_true]
def Aa{u0:U}{k:K}:∀{l:List (K×U)},dx k l=false->getM u0 k l=u0
 | [],_=>rfl
 | e::l,h=>by
  simp only[dx,bw,bk,wn] at h;unfold getM;rw[ut h.1];exact Aa h.2
def pn{k:K}{v:U}:∀{l:List (K×U)},dx k l=false->cu k v l=l++[(k,v)]
 | [],_=>rfl
 | e::l,h=>by
  simp only[dx,bw,bk,wn] at h;unfold cu;rw[ut h.1,pn h.2];rfl
def lF(u0:U)(k k':K)(v:U):∀(l:List (K×U)),getM u0 k' (cu k v l)=if k'=k then v else getM u0 k' l
 | []=>by simp only[cu,getM]
 | e::l=>by
  unfold cu;by_cases h:k=e.1
  ·rw[un h];unfold getM;by_cases h2:k'=k
   ·rw[un h2,un h2]
   ·rw[ut h2,ut h2,ut (by rw[<-h];exact h2)]
  ·rw[ut h];unfold getM;by_cases h2:k'=e.1
   ·rw[un h2,un h2,ut (λe2=>h (e2.symm.trans h2))]
   ·rw[ut h2,ut h2];exact lF u0 k k' v l
def qW(k k':K)(v:U):∀(l:List (K×U)),dx k' (cu k v l)=(decide (k'=k)||dx k' l)
 | []=>by simp[cu,dx]
 | e::l=>by
  have ih:=qW k k' v l;unfold cu;by_cases h:k=e.1
  ·rw[un h];simp only[dx,bw,h,<-ep,Bool.or_self]
  ·rw[ut h];simp only[dx,bw] at ih ⊢;rw[ih,<-ep,<-ep,Bool.or_comm (decide (k'=e.1))]
def lH{k:K}{l:List (K×U)}:dx k l=true↔k∈l.map (·.1):=by
 simp only[dx,List.any_eq_true,wp,mem_map];exact⟨λ⟨x,h1,h2⟩=>⟨x,h1,h2.symm⟩,λ⟨x,h1,h2⟩=>⟨x,h1,h2.symm⟩⟩
structure Keys (P:Program) (kt:TypeId) (kv:K->AV):Prop where
 eq:∀a b,lT P 4 kt (kv a) (kv b)=some (decide (a=b))
 ck:∀a,xY P kt (kv a)=true
 st:∀a,stays (kv a) (kv a)=true
end
end
end Go.Ev

namespace Go.Ev
noncomputable section
theorem jO.n{P:Program}{ro:Option Nat}{all:List Oper}{o:Oper}{l:List Oper}{f:Nat->AV}{n:Nat}{h:H}{ds:List kr}{K:iJ->Prop}{d:Nat}{op:Op}{outs:List (Option AV×H)}(hop:o.op=op)(hdst:o.dst=some d)(hw:lu all f n o=some true)(hnd:uC op=true)(hd:blt d n=true)
 (ho:eH P (eB f n) h op=some outs) (hk:∀x∈outs,jO P ro all l ⟨Br f d (VD x.1),n,x.2,ds⟩ K):jO P ro all (o::l) ⟨f,n,h,ds⟩ K:=by
 refine .cons hw (.run (by rw[hop];exact hnd) (by rw[hdst];exact hd) (by rw[hop];exact ho) ?_);intro x hx;have:=hk x hx;rw[hdst];obtain⟨v,h'⟩:=x;cases v<;>exact this
def LA{P:Program}{t:Tr AV}{h:H}{it:Operand}{s:Bool}{a:AV}(ha:ev t it=some a):eH P t h (.next it s)=(AE h a s).map λl=>l.map λx=>(some x.1,x.2):=by
 simp only[eH,ha]
section
variable {K U:Type} [DecidableEq K] {kv:K->AV} {uv:U->AV}
def bp(l:List (K×U))(seen:List Nat):List (K×U):=seen.filterMap λi=>l[i]?
omit [DecidableEq K] in
def nj{l:List (K×U)}{seen:List Nat}(hn:seen.Nodup)(hl:∀i∈seen,i<l.length)(ha:∀i,i<l.length->i∈seen):(bp l seen).Perm l:=by
 have hp:seen.Perm (bd l.length):=by
  refine(List.perm_ext_iff_of_nodup hn List.nodup_range).2 λi=>?_;rw[mem_range];exact⟨hl i,ha i⟩
 have h2:(bd l.length).filterMap (λi=>l[i]?)=l:=by
  apply List.ext_getElem?;intro j
  have:(bd l.length).filterMap (λi=>l[i]?)=(bd l.length).attach.map λx=>l[x.1]'(mem_range.1 x.2):=by
   have:∀(r:List Nat) (hr:∀i∈r,i<l.length),r.filterMap (λi=>l[i]?)=r.attach.map λx=>l[x.1]'(hr x.1 x.2):=by
    intro r hr
    induction r with
    | nil=>rfl
    | cons a r ih=>
     have ha:=hr a (aj ..);rw[List.filterMap_cons,jp ha];simp only[List.attach_cons,ce,List.map_map];rw[ih λi hi=>hr i (ad _ hi)];rfl
   exact this _ λi hi=>mem_range.1 hi
  rw[this];by_cases hj:j<l.length
  ·rw[bb,jp (by simpa using hj),jp hj];simp
  ·rw[a9 (by simp;omega),a9 ii]
 unfold bp;have:=hp.filterMap λi=>l[i]?;rw[h2] at this;exact this
omit [DecidableEq K] in
def lG(l:List (K×U))(seen:List Nat){i:Nat}{e:K×U}(h:l[i]?=some e):bp l (seen++[i])=bp l seen++[e]:=by
 unfold bp;rw[List.filterMap_append];simp[h]
end
def N1(Z:Nat)(h:H)(v:AV)(s:Nat)(rows:List (List AV)):Prop:=
 (∀r∈rows,r.length=s)/\((rows=[]/\v=.slice none 0 0 (some 0))\/∃id bQ x y,rows≠[]/\v=.slice (some (id,0)) rows.length s none/\h.aU.get id=some (.cells rows.flatten bQ)/\h.dF.get bQ=some (x,y)/\(id=x\/id=y)/\
  Z<=id/\Z<=x/\Z<=y/\Z<=bQ/\id<h.next/\x<h.next/\y<h.next/\bQ<h.next)
structure Over (Z:Nat) (h h':H):Prop where
 next:h.next<=h'.next
 aU:∀j,j<Z->h'.aU.get j=h.aU.get j
 dF:∀f,f<Z->h'.dF.get f=h.dF.get f
 low:h.low<=Z->h'.low=h.low
def Over.refl(Z:Nat)(h:H):Over Z h h:=⟨ap _,λ_ _=>rfl,λ_ _=>rfl,λ_=>rfl⟩
def Over.trans{Z:Nat}{h h' h'':H}(a:Over Z h h')(b:Over Z h' h''):Over Z h h'':=
 ⟨eu a.next b.next,λj hj=>(b.aU j hj).trans (a.aU j hj),λj hj=>(b.dF j hj).trans (a.dF j hj),λhl=>(b.low (by rw[a.low hl];exact hl)).trans (a.low hl)⟩
def sS{Z:Nat}{h:H}{id bQ x y:Nat}(hf:h.dF.get bQ=some (x,y))(hx:Z<=x)(hy:Z<=y)(hfm:Z<=bQ):Over Z h (h.alone id bQ)/\(h.alone id bQ).next=h.next:=by
 unfold H.alone;rw[hf];simp only;cases hb:(beq x id&&beq y id)
 ·rw[aw];refine⟨⟨ap _,λj hj=>?_,λf hff=>?_,λhl=>?_⟩,rfl⟩
  ·simp only;cases beq y id
   ·rw[aw];cases beq x id
    ·rw[aw,bq _ _ ii,bq _ _ ii]
    ·rw[ar,bq _ _ ii]
   ·rw[ar,bq _ _ ii]
  ·simp only;rw[bq _ _ ii]
  ·simp only
   have:Z<=iA x y:=by unfold iA;cases ble x y<;>simp<;>assumption
   exact wq ii
 ·rw[ar];exact⟨Over.refl _ _,rfl⟩
def HR.rewrite{σ:Sg}{h:H}{w w1:World}(hr:HR σ h w){id bQ:Nat}{cs cs':List AV}{p:tE}(ho:h.aU.get id=some (.cells cs bQ))(hp:σ id=some p)(hlen:cs'.length=cs.length)
 {c c':Array Value} {e:TypeId} (hb:w.heap[p.b]?=some (.cells c e (0,0))) (hb':w1.heap[p.b]?=some (.cells c' e (0,0))) (hcz:c'.size=c.size) (hV:∀(i:Nat) (a:AV),cs'[i]?=some a->∃v,c'[p.d+i]?=some v/\V σ a v)
 (hoth:∀b,b≠p.b->w1.heap[b]?=w.heap[b]?) (hs:w1.heap.size=w.heap.size) (e1:w1.os=w.os) (e2:w1.tape=w.tape) (e3:w1.output=w.output):
 HR σ { h.alone id bQ with aU:=(h.alone id bQ).aU.put id (some (.cells cs' bQ)),low:=iA (h.alone id bQ).low id } w1/\
 Ext σ σ h { h.alone id bQ with aU:=(h.alone id bQ).aU.put id (some (.cells cs' bQ)),low:=iA (h.alone id bQ).low id } w w1:=by
 obtain⟨q,c0,e0,hq,h1,h2,h3,h4⟩:=hr.cells ho;rw[hp] at hq;cases hq;rw[hb] at h1;cases h1;obtain⟨a1,a2,a3,a4,a5,a6,a7,a8⟩:=nM hr ho;refine hr.update (o':=.cells cs' bQ) ho hp ?_ a4 ?_ ?_ hoth hs e1 e2 e3 (eu (dR _ _).1 a7) ?_
 ·intro j x hx;simp only[dB] at hx;split at hx
  ·rename_i e;cases hx;exact .inl ⟨e,rfl⟩
  ·rename_i hne;have hx':=a2 j x hx;refine .inr ⟨hne,hx',?_⟩;intro q hq hbb;obtain⟨cs1,e1⟩:=(hr.sep j id x _ q p hne hx' ho hq hp hbb).left;subst e1;exact hne (a3 j cs1 hx)
 ·intro i cs'' f hi;simp only[dB] at hi;split at hi
  ·rename_i e;cases hi;subst e;exact⟨(hr.bQ i _ _ ho).1,a5⟩
  ·rename_i hne;have hi':=a2 _ _ hi;obtain⟨b1,x,y,b2,b3⟩:=hr.bQ i _ _ hi';refine⟨b1,x,y,?_,b3⟩;rw[a6 f (λe=>hne (a3 i cs'' (e▸hi)))];exact b2
 ·exact⟨c',e,hb',by rw[hcz];exact h2,by omega,hV⟩
 ·intro j hj hjn;simp only[dB];have hm:=dR (h.alone id bQ).low id;rw[ut (by simp only at hj;omega)];exact a8 j (by simp only at hj;omega)
def Cc{h:H}{id bQ x y:Nat}(hf:h.dF.get bQ=some (x,y)):(h.alone id bQ).dF.get bQ=some (id,id):=by
 unfold H.alone;rw[hf];simp only;cases hb:(beq x id&&beq y id)
 ·rw[aw];exact c7 _ _ _
 ·rw[ar,hf];simp only[be] at hb;rw[cW hb.1,cW hb.2]
def dq:∀a:List Nat,fO a a=false
 | []=>rfl
 | x::a=>by
  simp only[fO,dq a,Bool.and_false,Bool.or_false];cases hb:blt x x
  ·rfl
  ·exact ul (gp hb) (Nat.lt_irrefl _)
def KV(a b:Nat):blt a b=decide (a<b):=by
 by_cases h:a<b
 ·have:blt a b=true:=Nat.ble_eq_true_of_le h;simp[h,this]
 ·cases hb:blt a b
  ·simp[h]
  ·exact ul (gp hb) h
def beq_iff(a b:Nat):beq a b=decide (a=b):=by
 by_cases h:a=b
 ·subst h;simp
 ·cases hb:beq a b
  ·simp[h]
  ·exact ul (cW hb) h
def j8:∀a b:List Nat,fO a b=true\/a=b\/fO b a=true
 | [],[]=>.inr (.inl rfl)
 | [],_::_=>.inl rfl
 | _::_,[]=>.inr (.inr rfl)
 | x::a,y::b=>by
  simp only[fO,KV,beq_iff]
  rcases Nat.lt_trichotomy x y with h | h | h
  ·exact .inl (by simp[h])
  ·subst h
   rcases j8 a b with h | h | h
   ·exact .inl (by simp[h])
   ·exact .inr (.inl (by rw[h]))
   ·exact .inr (.inr (by simp[h]))
  ·exact .inr (.inr (by simp[h]))
def fP:∀{a b c:List Nat},fO a b=true->fO b c=true->fO a c=true
 | _,[],_,h,_=>by simp[fO] at h
 | _,_::_,[],_,h=>by simp[fO] at h
 | [],_::_,_::_,_,_=>rfl
 | x::a,y::b,z::c,h1,h2=>by
  simp only[fO,KV,beq_iff,c6,be,wp] at h1 h2 ⊢
  rcases h1 with h1 | ⟨h1,g1⟩
  ·rcases h2 with h2 | ⟨h2,_⟩
   ·exact .inl ii
   ·exact .inl ii
  ·rcases h2 with h2 | ⟨h2,g2⟩
   ·exact .inl ii
   ·exact .inr ⟨by omega,fP g1 g2⟩
def rY{a b:List Nat}(h:fO a b=true):fO b a=false:=by
 cases hb:fO b a
 ·rfl
 ·have:=fP h hb;rw[dq] at this;cases this
def kH{h:H}{id bQ x y:Nat}(hf:h.dF.get bQ=some (x,y)){i:Nat}(hx:i≠x)(hy:i≠y):(h.alone id bQ).aU.get i=h.aU.get i:=by
 unfold H.alone;rw[hf];simp only;cases hb:(beq x id&&beq y id)
 ·rw[aw];simp only;cases beq y id
  ·rw[aw];cases beq x id
   ·rw[aw,bq _ _ hy,bq _ _ hx]
   ·rw[ar,bq _ _ hy]
  ·rw[ar,bq _ _ hx]
 ·rw[ar]
def Pu{k:IntKind}{a b:Int}:AD false (.int k a) (.int k b)=some (.int k (if a<=b then a else b)):=by
 simp only[AD,gM,aw];by_cases h:a<=b<;>simp[h]
def Pt{k:IntKind}{a b:Int}:AD true (.int k a) (.int k b)=some (.int k (if b<=a then a else b)):=by
 simp only[AD,gM,ar];by_cases h:b<=a<;>simp[h]
open Go.RowKit Go.ChangeShapes Go.WideShapes Go.Deep
section
abbrev QY:=List (tE×Option (List AV))
def P5:QY->Nat->Tr AO->Tr AO
 | [],_,t=>t
 | (_,oc)::l,i,t=>P5 l (i+1) (match oc with | some cs=>t.put i (some (.ro cs)) | none=>t)
def Ws(l:QY):H:={ aU:=P5 l 0 .nil,dF:=.nil,next:=l.length,low:=0 }
def Hk:∀(l:QY) (i:Nat) (t:Tr AO) (j:Nat),(P5 l i t).get j=if i<=j/\j<i+l.length then (match (l[j-i]?).bind (·.2) with | some cs=>some (.ro cs) | none=>t.get j) else t.get j
 | [],i,t,j=>by rw[ut gc];rfl
 | (p,oc)::l,i,t,j=>by
  unfold P5;rw[Hk l (i+1)];by_cases hj:j=i
  ·subst hj;rw[ut ii,un gc,ey]
   cases oc with
   | none=>rfl
   | some cs=>exact c7 _ _ _
  ·have ht:(match oc with | some cs=>t.put i (some (.ro cs)) | none=>t).get j=t.get j:=by
    cases oc with
    | none=>rfl
    | some cs=>exact bq _ _ hj
   rw[ht];by_cases h:i+1<=j/\j<i+1+l.length
   ·rw[un h,un (by simp;omega)]
    have e:j-i=(j-(i+1))+1:=by omega
    rw[e,ac]
   ·rw[ut h,ut (by simp;omega)]
def RF(l:QY)(j:Nat):(Ws l).aU.get j=((l[j]?).bind (·.2)).map .ro:=by
 show(P5 l 0 .nil).get j=_;rw[Hk,e5,b5];by_cases h:j<l.length
 ·rw[un ⟨d8 _,h⟩]
  cases hb:(l[j]?).bind (·.2) with
  | none=>exact get_nil _
  | some cs=>rfl
 ·rw[ut ii,a9 ii];exact get_nil _
def Cg{w:World}{b o:Nat}{v:Value}(h:w.cell? ⟨b,o,none⟩=some v):∃c e f,w.heap[b]?=some (.cells c e f)/\c[o]?=some v:=by
 unfold World.cell? at h;split at h
 ·rename_i c e f hb;split at h
  ·cases h
  ·exact⟨c,e,f,hb,h⟩
 ·cases h
variable {Hh:Type} {enc:TypeId×Value->Hh} {P:Program} {w:World} {held:Bool}
def tS(s:ByteArray):∀b∈s.data.toList.map (·.toNat),b<256:=by
 intro b hb;obtain⟨u,_,rfl⟩:=mem_map.1 hb;exact u.toNat_lt
end
open Go.RowKit
mutual
def Wd(w:World):DV->Value->Prop
 | .fl a,v=>nh a=true/\∀σ:Sg,V σ a v
 | .sl nl n e cs,v=>(nl=true/\n=0/\cs=[]/\v=.slice none 0 0)\/
  (nl=false/\∃a c,v=.slice (some a) n c/\n<=c/\((n=0/\cs=[]/\(a.spot=none\/c=0))\/
   (0<n/\a.spot=none/\∃arr ty f us,w.heap[a.block]?=some (.cells arr ty f)/\a.off+c*e<=arr.size/\us.length=n*e/\(∀(i:Nat) u,us[i]?=some u->arr[a.off+i]?=some u)/\nL w cs us)))
 | .ag cs,v=>∃vs,v=.agg vs/\nL w cs vs.toList
def nL(w:World):List DV->List Value->Prop
 | [],us=>us=[]
 | d::ds,us=>∃u r,us=u::r/\Wd w d u/\nL w ds r
end
mutual
def Dp(s:Bool)(h:H):DV->AV->Prop
 | .fl a0,a=>a=a0/\nh a0=true
 | .sl nl n e cs,a=>(n=0/\cs=[]/\(∃o e' c,a=.slice o 0 e' c/\(o=none->c=some 0)/\(o≠none->e'=e))/\(s=true->nl=true/\a=.slice none 0 e (some 0)))\/
  ((s=true->nl=false/\0<n)/\∃id off cap row aS,a=.slice (some (id,off)) n e cap/\id<h.next/\sw h.aU id=some row/\off+n*e<=row.length/\aS=(row.drop off).take (n*e)/\FB s h cs aS)
 | .ag cs,a=>∃aS,a=.agg aS/\FB s h cs aS
def FB(s:Bool)(h:H):List DV->List AV->Prop
 | [],aS=>aS=[]
 | d::ds,aS=>∃a r,aS=a::r/\Dp s h d a/\FB s h ds r
end
section
variable {w:World} {s:Bool} {h:H}
def FK{a:AV}{v:Value}:Wd w (.fl a) v↔nh a=true/\∀σ:Sg,V σ a v:=by rw[Wd]
def FL{nl:Bool}{n e:Nat}{cs:List DV}{v:Value}:Wd w (.sl nl n e cs) v↔(nl=true/\n=0/\cs=[]/\v=.slice none 0 0)\/
 (nl=false/\∃a c,v=.slice (some a) n c/\n<=c/\((n=0/\cs=[]/\(a.spot=none\/c=0))\/
  (0<n/\a.spot=none/\∃arr ty f us,w.heap[a.block]?=some (.cells arr ty f)/\a.off+c*e<=arr.size/\us.length=n*e/\(∀(i:Nat) u,us[i]?=some u->arr[a.off+i]?=some u)/\nL w cs us))):=by rw[Wd]
def N8{cs:List DV}{v:Value}:Wd w (.ag cs) v↔∃vs,v=.agg vs/\nL w cs vs.toList:=by rw[Wd]
def jo{us:List Value}:nL w [] us↔us=[]:=by rw[nL]
def eh{d:DV}{ds:List DV}{us:List Value}:nL w (d::ds) us↔∃u r,us=u::r/\Wd w d u/\nL w ds r:=by rw[nL]
def UH{a0 a:AV}:Dp s h (.fl a0) a↔a=a0/\nh a0=true:=by rw[Dp]
def KI{nl:Bool}{n e:Nat}{cs:List DV}{a:AV}:Dp s h (.sl nl n e cs) a↔(n=0/\cs=[]/\(∃o e' c,a=.slice o 0 e' c/\(o=none->c=some 0)/\(o≠none->e'=e))/\(s=true->nl=true/\a=.slice none 0 e (some 0)))\/
 ((s=true->nl=false/\0<n)/\∃id off cap row aS,a=.slice (some (id,off)) n e cap/\id<h.next/\sw h.aU id=some row/\off+n*e<=row.length/\aS=(row.drop off).take (n*e)/\FB s h cs aS):=by rw[Dp]
def UG{cs:List DV}{a:AV}:Dp s h (.ag cs) a↔∃aS,a=.agg aS/\FB s h cs aS:=by rw[Dp]
def Q2{aS:List AV}:FB s h [] aS↔aS=[]:=by rw[FB]
def NY{d:DV}{ds:List DV}{aS:List AV}:FB s h (d::ds) aS↔∃a r,aS=a::r/\Dp s h d a/\FB s h ds r:=by rw[FB]
end
def N5(σ:Sg)(w:World)(p:tE)(row:List AV):Prop:=∃c e f,w.heap[p.b]?=some (.cells c e f)/\p.d+p.r<=c.size/\row.length<=p.r/\∀(i:Nat) (a:AV),row[i]?=some a->∃v,c[p.d+i]?=some v/\V σ a v
def Of{α:Type}{a b:List α}{i:Nat}{x:α}(h:(a++b)[i]?=some x):(i<a.length/\a[i]?=some x)\/(a.length<=i/\b[i-a.length]?=some x):=by
 rw[d3] at h;split at h
 ·rename_i hi;exact .inl ⟨hi,h⟩
 ·rename_i hi;exact .inr ⟨by omega,h⟩
mutual
def Wd.canon{w:World}:∀{d:DV} {v:Value},Wd w d v->∀k,∃ps:List tE,ps.length=(canon d k).2.length/\∀σ:Sg,(∀(i:Nat) p,ps[i]?=some p->σ (k+i)=some p)->
 V σ (Ev.canon d k).1 v/\∀(i:Nat) p row,ps[i]?=some p->(Ev.canon d k).2[i]?=some (some row)->N5 σ w p row
 | .fl a,v,hd,k=>by
  rw[FK] at hd;simp only[Ev.canon];exact⟨[],rfl,λσ _=>⟨hd.2 σ,λi p row h _=>by simp at h⟩⟩
 | .sl nl n e cs,v,hd,k=>by
  rw[FL] at hd
  rcases hd with⟨rfl,rfl,rfl,rfl⟩ | ⟨rfl,a,c,rfl,hl,⟨rfl,rfl,hsp⟩ | ⟨hn,hsp,arr,ty,f,us,g1,g2,g3,g4,g5⟩⟩
  ·simp only[Ev.canon];exact⟨[],rfl,λσ _=>⟨.iF rfl,λi p row h _=>by simp at h⟩⟩
  ·simp only[Ev.canon,eX];refine⟨[⟨a.block,a.off,c*e⟩],rfl,λσ hσ=>⟨?_,λi p row h1 h2=>?_⟩⟩
   ·have h0:=hσ 0 _ rfl;rw[er] at h0;refine .slice h0 hl (by show 0+c*e<=c*e;omega) gc ?_
    rcases hsp with hsp | hsp
    ·left;cases a;simp only at hsp ⊢;subst hsp;rfl
    ·exact .inr hsp
   ·cases i with
    | zero=>simp at h2
    | succ i=>simp at h1
  ·obtain⟨ps,hps,hσs⟩:=nL.canon g5 (k+1);obtain⟨m,rfl⟩:∃m,n=m+1:=⟨n-1,by omega⟩;simp only[Ev.canon];refine⟨⟨a.block,a.off,c*e⟩::ps,by simp[hps],λσ hσ=>?_⟩;have h0:=hσ 0 _ rfl;rw[er] at h0
   obtain⟨k1,k2⟩:=hσs σ λi p hp=>by
    have:=hσ (i+1) p (by simpa using hp);rw[show k+1+i=k+(i+1) by omega];exact this
   refine⟨.slice h0 hl (by show 0+c*e<=c*e;omega) gc (.inl (by cases a;simp only at hsp ⊢;subst hsp;rfl)),λi p row h1 h2=>?_⟩
   cases i with
   | zero=>
    simp only[ax,qr] at h1 h2;subst h1;subst h2;have hlen:=k1.1;refine⟨arr,ty,f,g1,by simpa using g2,?_,λi x hx=>?_⟩
    ·rw[hlen,g3];exact Nat.mul_le_mul_right e hl
    ·obtain⟨u,hu,hV⟩:=k1.get hx;exact⟨u,g4 i u hu,hV⟩
   | succ i=>
    simp only[ac] at h1 h2;exact k2 i p row h1 h2
 | .ag cs,v,hd,k=>by
  rw[N8] at hd;obtain⟨vs,rfl,h1⟩:=hd;obtain⟨ps,hps,hσs⟩:=nL.canon h1 k;simp only[Ev.canon];refine⟨ps,hps,λσ hσ=>?_⟩;obtain⟨k1,k2⟩:=hσs σ hσ;exact⟨.agg (by simpa using k1.1) (λi x y hx hy=>k1.2 i x y hx (by simpa using hy)),k2⟩
def nL.canon{w:World}:∀{ds:List DV} {us:List Value},nL w ds us->∀k,∃ps:List tE,ps.length=(eX ds k).2.length/\∀σ:Sg,(∀(i:Nat) p,ps[i]?=some p->σ (k+i)=some p)->
 VL σ (eX ds k).1 us/\∀(i:Nat) p row,ps[i]?=some p->(eX ds k).2[i]?=some (some row)->N5 σ w p row
 | [],us,hd,k=>by
  rw[jo] at hd;subst hd;simp only[eX];exact⟨[],rfl,λσ _=>⟨.nil,λi p row h _=>by simp at h⟩⟩
 | d::ds,us,hd,k=>by
  rw[eh] at hd;obtain⟨u,r,rfl,h1,h2⟩:=hd;obtain⟨ps,hps,hσ1⟩:=Wd.canon h1 k;obtain⟨qs,hqs,hσ2⟩:=nL.canon h2 (k+(Ev.canon d k).2.length);simp only[eX];refine⟨ps++qs,by simp[hps,hqs],λσ hσ=>?_⟩
  obtain⟨a1,a2⟩:=hσ1 σ λi p hp=>hσ i p (by
   have hi:i<ps.length:=(rg hp).1
   rw[am hi];exact hp)
  obtain⟨b1,b2⟩:=hσ2 σ λi p hp=>by
   have:=hσ (ps.length+i) p (by rw[aJ ii,bv];exact hp);rw[<-hps,f6];exact this
  refine⟨.cons a1 b1,λi p row g1 g2=>?_⟩
  rcases Of g1 with⟨i1,e1⟩ | ⟨i1,e1⟩<;>rcases Of g2 with⟨i2,e2⟩ | ⟨i2,e2⟩
  ·exact a2 i p row e1 e2
  ·omega
  ·omega
  ·rw[hps] at e1;exact b2 _ p row e1 e2
end
def TZ(rows:List (Option (List AV))):H:=Ws (rows.map λr=>(⟨0,0,0⟩,r))
def uq(rows:List (Option (List AV)))(j:Nat):(TZ rows).aU.get j=((rows[j]?).bind λr=>r).map .ro:=by
 unfold TZ;rw[RF,bb];cases rows[j]?<;>rfl
def T0{w:World}{rows:List (Option (List AV))}{ps:List tE}(hl:ps.length=rows.length)(hin:∀(i:Nat) p row,ps[i]?=some p->rows[i]?=some (some row)->N5 (λi=>ps[i]?) w p row):HR (λi=>ps[i]?) (TZ rows) w:=by
 refine⟨?_,?_,?_,?_,d8 _⟩
 ·intro id o ho;rw[uq] at ho;obtain⟨cs,h1,rfl⟩:=au ho
  cases hx:rows[id]? with
  | none=>rw[hx] at h1;cases h1
  | some r=>
   rw[hx] at h1;have h1:r=some cs:=h1;subst h1;have hid:id<rows.length:=(rg hx).1;have hp:ps[id]?=some ps[id]:=jp ii;exact⟨ps[id],hp,hin id _ cs hp hx⟩
 ·intro id hid;have hid:(rows.map λr=>((⟨0,0,0⟩:tE),r)).length<=id:=hid;rw[b9] at hid;exact a9 ii
 ·intro i j o o' p q hij hi hj _ _ _;rw[uq] at hi hj;obtain⟨cs,_,rfl⟩:=au hi;obtain⟨cs',_,rfl⟩:=au hj;exact .inr ⟨cs,cs',rfl,rfl⟩
 ·intro i cs f hi;rw[uq] at hi;obtain⟨cs',_,e⟩:=au hi;cases e
def I5{rows:List (Option (List AV))}{σ σ':Sg}{h':H}{w w':World}(hE:Ext σ σ' (TZ rows) h' w w'):Below w.heap.size w w':=
 ⟨hE.os,hE.tape,hE.output,hE.size,λk hk=>hE.frame k hk λid o p ho hw=>by
  rw[uq] at ho;obtain⟨cs,_,rfl⟩:=au ho
  exact ul rfl (hw cs)⟩
def nL.lay{w:World}{ds:List DV}{us:List Value}(h:nL w ds us):∃σ:Sg,VL σ (eX ds 0).1 us/\HR σ (TZ (eX ds 0).2) w:=by
 obtain⟨ps,hps,hσ⟩:=nL.canon h 0;obtain⟨k1,k2⟩:=hσ (λi=>ps[i]?) (λi p hp=>by rw[b5];exact hp);exact⟨_,k1,T0 hps k2⟩
def Sub(rows:List (Option (List AV)))(k:Nat)(l:List (Option (List AV))):Prop:=∀(i:Nat) r,l[i]?=some r->rows[k+i]?=some r
mutual
def Wd.dp{w:World}{rows:List (Option (List AV))}:∀{d:DV} {v:Value},Wd w d v->∀k,Sub rows k (Ev.canon d k).2->Dp false (TZ rows) d (Ev.canon d k).1
 | .fl a,v,hd,k,hs=>by
  rw[FK] at hd;simp only[Ev.canon,Dp];exact⟨trivial,hd.1⟩
 | .sl nl n e cs,v,hd,k,hs=>by
  rw[FL] at hd
  rcases hd with⟨rfl,rfl,rfl,rfl⟩ | ⟨rfl,a,c,rfl,hl,⟨rfl,rfl,hsp⟩ | ⟨hn,hsp,arr,ty,f,us,g1,g2,g3,g4,g5⟩⟩
  ·simp only[Ev.canon];rw[KI];exact .inl ⟨rfl,rfl,⟨_,_,_,rfl,by simp⟩,λh=>by cases h⟩
  ·simp only[Ev.canon];rw[KI];exact .inl ⟨rfl,rfl,⟨_,_,_,rfl,by simp⟩,λh=>by cases h⟩
  ·obtain⟨m,rfl⟩:∃m,n=m+1:=⟨n-1,by omega⟩;simp only[Ev.canon] at hs ⊢
   have hlen:(eX cs (k+1)).1.length=(m+1)*e:=by
    obtain⟨ps,hps,hσ⟩:=nL.canon g5 (k+1);have:=(hσ (λi=>ps[i-(k+1)]?) (λi p hp=>by rw[bv];exact hp)).1.1;rw[this,g3]
   have h0:=hs 0 _ rfl;rw[er] at h0;have hk:k<rows.length:=(rg h0).1
   have ih:=nL.dp (rows:=rows) g5 (k+1) (λi r hr=>by
    have:=hs (i+1) r (by simpa using hr)
    rw[show k+1+i=k+(i+1) by omega];exact this)
   rw[KI];refine .inr ⟨λh=>(by cases h),k,0,none,(eX cs (k+1)).1,(eX cs (k+1)).1,rfl,?_,?_,?_,?_,ih⟩
   ·show k<(rows.map _).length;rw[b9];exact hk
   ·unfold sw;rw[uq,h0];rfl
   ·rw[hlen];omega
   ·rw[f5,b8 ii]
 | .ag cs,v,hd,k,hs=>by
  rw[N8] at hd;obtain⟨vs,rfl,h1⟩:=hd;simp only[Ev.canon] at hs ⊢;simp only[Dp];exact⟨_,rfl,nL.dp h1 k hs⟩
def nL.dp{w:World}{rows:List (Option (List AV))}:∀{ds:List DV} {us:List Value},nL w ds us->∀k,Sub rows k (eX ds k).2->FB false (TZ rows) ds (eX ds k).1
 | [],us,hd,k,hs=>by
  simp only[eX,FB]
 | d::ds,us,hd,k,hs=>by
  rw[eh] at hd;obtain⟨u,r,rfl,h1,h2⟩:=hd;simp only[eX] at hs ⊢;simp only[FB];refine⟨_,_,rfl,Wd.dp h1 k (λi x hx=>hs i x ?_),nL.dp h2 _ (λi x hx=>?_)⟩
  ·have hi:i<(Ev.canon d k).2.length:=(rg hx).1;rw[am hi];exact hx
  ·have:=hs ((Ev.canon d k).2.length+i) x (by rw[aJ ii,bv];exact hx);rw[f6];exact this
end
section
inductive Ty where
 | bool
 | int (k:IntKind)
 | str
 | sl (t:Ty)
 | st (ts:List Ty)
 | no (s:Nat)
mutual
def Ty.size:Ty->Nat
 | .st ts=>Ty.pz ts
 | .no s=>s
 | _=>1
def Ty.pz:List Ty->Nat
 | []=>0
 | t::ts=>t.size+Ty.pz ts
end
mutual
def kj(B:Nat):Ty->List DV->Prop
 | .bool,ds=>∃b,ds=[.fl (.bool b)]
 | .int k,ds=>∃n,ds=[.fl (.int k n)]/\(Lit.int k n).wf=true
 | .str,ds=>∃s:List Nat,ds=[.fl (.str s)]/\(∀x∈s,x<256)/\s.length<=B
 | .sl t,ds=>∃(nl:Bool) (rows:List (List DV)),ds=[.sl nl rows.length t.size rows.flatten]/\rows.length<=B/\∀r∈rows,kj B t r
 | .st ts,ds=>ee B ts ds
 | .no _,_=>False
def ee(B:Nat):List Ty->List DV->Prop
 | [],ds=>ds=[]
 | t::ts,ds=>∃d1 d2,ds=d1++d2/\kj B t d1/\ee B ts d2
end
def VC(B:Nat):Ty->DV->Prop
 | .st ts,d=>∃ds,d=.ag ds/\ee B ts ds
 | t,d=>kj B t [d]
def gH(P:Program)(rec:TypeId->Option Ty):List Field->Nat->Option (List Ty)
 | [],_=>some []
 | f::fs,off=>cond (beq f.offset off) ((rec f.type).bind λt=>cond (beq (P.cellsOf f.type) t.size) ((gH P rec fs (off+t.size)).map (t::·)) none) none
def gD(P:Program):Nat->TypeId->Option Ty
 | 0,t=>some (.no (P.cellsOf t))
 | k+1,t=>match P.underlying t with
  | some .bool=>some .bool
  | some (.int i)=>some (.int i)
  | some .string=>some .str
  | some (.slice e)=>(gD P k e).bind λte=>cond (beq (P.cellsOf e) te.size&&(ble 1 te.size&&ble 1 (P.bytesOf e))) (some (.sl te)) none
  | some (.struct fs)=>(gH P (gD P k) fs.toList 0).bind λts=>cond (beq (P.cellsOf t) (Ty.pz ts)) (some (.st ts)) none
  | _=>none
def nL.append{w:World}:∀{a b:List DV} {x y:List Value},nL w a x->nL w b y->nL w (a++b) (x++y)
 | [],b,x,y,h1,h2=>by rw[jo] at h1;subst h1;exact h2
 | d::a,b,x,y,h1,h2=>by
  rw[eh] at h1;obtain⟨u,r,rfl,k1,k2⟩:=h1;rw[List.cons_append,eh];exact⟨u,r++y,rfl,k1,nL.append k2 h2⟩
def nL.rows{w:World}{n:Nat}{G:Nat->List DV}{F:Nat->List Value}(h:∀i,i<n->nL w (G i) (F i)):nL w ((bd n).map G).flatten ((bd n).map F).flatten:=by
 have key:∀l:List Nat,(∀i∈l,i<n)->nL w (l.map G).flatten (l.map F).flatten:=by
  intro l
  induction l with
  | nil=>intro _;rw[map_nil,map_nil,fd,fd,jo]
  | cons a l ih=>
   intro hl;rw[ce,ce,ba,ba];exact nL.append (h a (hl a (aj ..))) (ih λi hi=>hl i (ad _ hi))
 exact key _ λi hi=>mem_range.1 hi
def Gl{α:Type}{s:Nat}:∀{rows:List (List α)},(∀r∈rows,r.length=s)->∀{j:Nat} {x:α},rows.flatten[j]?=some x->∃i k r,j=i*s+k/\k<s/\rows[i]?=some r/\r[k]?=some x
 | [],_,j,x,h=>by simp at h
 | a::rows,hw,j,x,h=>by
  have ha:=hw a (aj ..);rw[ba,d3] at h;split at h
  ·rename_i hj;exact⟨0,j,a,by omega,by omega,rfl,h⟩
  ·obtain⟨i,k,r,e1,e2,e3,e4⟩:=Gl (λr hr=>hw r (ad _ hr)) h;exact⟨i+1,k,r,by rw[ci];omega,e2,e3,e4⟩
variable {Hh:Type} {enc:TypeId×Value->Hh} {P:Program} {w:World} {held:Bool}
variable {B:Nat}
def R6:∀{t:Ty} {ds:List DV},kj B t ds->(∀ts,t≠.st ts)->ds.length=1:=by
 intro t ds h hn
 cases t with
 | bool=>rw[kj] at h;obtain⟨b,rfl⟩:=h;rfl
 | int k=>rw[kj] at h;obtain⟨n,rfl,_⟩:=h;rfl
 | str=>rw[kj] at h;obtain⟨s,rfl,_⟩:=h;rfl
 | sl t=>rw[kj] at h;obtain⟨nl,rows,rfl,_,_⟩:=h;rfl
 | st ts=>exact ul rfl (hn ts)
 | no s=>rw[kj] at h;exact h.elim
def nG{e:TypeId}{x:DataW Hh}{n:Nat}(hn:n∈x.weights P e):∀{l:List (DataW Hh)},x∈l->n∈DataW.weightsAll P e l
 | [],h=>by cases h
 | d::l,h=>by
  unfold DataW.weightsAll
  rcases t6 h with rfl | h
  ·exact d5 _ hn
  ·exact cb _ (nG hn h)
def U2{t e:TypeId}{n:Nat}{cs:List Value}{x:DataW Hh×List MemPlace}(ht:P.underlying t=some (.slice e))(h:DataW.trod enc P w 0 (λ_=>true) held n t cs=some x):
 (cs=[.slice none 0 0]/\x=(.nil,[]))\/∃(a:Addr) (len cap n':Nat) (D:Nat->DataW Hh),n=n'+1/\cs=[.slice (some a) len cap]/\len<=cap/\x.1=.slice ((bd len).map D) ((bd (cap-len)).map λj=>D (len+j))/\
  ∀i,i<cap->∃cs' y,w.cells? 0 (a.add (i*P.cellsOf e)) (P.cellsOf e)=some cs'/\DataW.trod enc P w 0 (λ_=>true) held n' e cs'=some y/\y.1=D i:=by
 rcases DataW.trod_slice ht h with h0 | ⟨a,len,cap,elems,rest,n',hn,hcs,hx,_,hl,_,hlen,hel,hsp,_⟩
 ·exact .inl h0
 obtain⟨hrl,hre⟩:=hsp rfl;refine .inr ⟨a,len,cap,n',λi=>((elems++rest).getD i (.nil,[])).1,hn,hcs,hl,?_,λi hi=>?_⟩
 ·rw[hx];show DataW.slice _ _=_
  congr 1
  ·refine e6 (by simp[hlen]) λi h1 h2=>?_
   have h3:i<elems.length:=by simpa using h1
   simp[getD,am h3,jp h3]
  ·refine e6 (by simp[hrl]) λi h1 h2=>?_
   have h3:i<rest.length:=by simpa using h1
   have h4:elems.length<=len+i:=by omega
   have h5:len+i-elems.length=i:=by omega
   simp[getD,aJ h4,h5,jp h3]
 ·by_cases hil:i<len
  ·have h3:i<elems.length:=by omega
   have k:=hel i hil;rw[jp h3] at k;obtain⟨cs',h1,h2⟩:=t8 k;exact⟨cs',_,h1,h2,by simp[getD,am h3,jp h3]⟩
  ·have h3:i-len<rest.length:=by omega
   have k:=hre (i-len) ii;rw[jp h3,show len+(i-len)=i by omega] at k;obtain⟨cs',h1,h2⟩:=t8 k
   have h4:elems.length<=i:=by omega
   have h5:i-elems.length=i-len:=by omega
   exact⟨cs',_,h1,h2,by simp[getD,aJ h4,h5,jp h3]⟩
def xn{rec:TypeId->Option Ty}{cs:List Value}{m:Nat}(hrec:∀(t:TypeId) (ty:Ty),rec t=some ty->∀(n:Nat),n<=m->∀(c:List Value) (y:DataW Hh×List MemPlace),DataW.trod enc P w 0 (λ_=>true) held n t c=some y->(∀x∈y.1.weights P t,x<=B)->∃ds,kj B ty ds/\nL w ds c):
 ∀(fs:List Field) (off:Nat) (ts:List Ty),gH P rec fs off=some ts->off+Ty.pz ts=cs.length->(∀f∈fs,∃n y,n<=m/\DataW.trod enc P w 0 (λ_=>true) held n f.type ((cs.drop f.offset).take (P.cellsOf f.type))=some y/\∀x∈y.1.weights P f.type,x<=B)->∃ds,ee B ts ds/\nL w ds (cs.drop off)
 | [],off,ts,h,hl,_=>by
  simp only[gH,qr] at h;subst h;simp only[Ty.pz] at hl;exact⟨[],by rw[ee],by rw[jo,List.drop_of_length_le ii]⟩
 | f::fs,off,ts,h,hl,hf=>by
  unfold gH at h;obtain⟨ho,h⟩:=aF h;have ho:=cW ho
  cases hr:rec f.type with
  | none=>rw[hr] at h;cases h
  | some t=>
   rw[hr] at h;simp only[m7] at h;obtain⟨hc,h⟩:=aF h;have hc:=cW hc;obtain⟨ts',h',rfl⟩:=au h;simp only[Ty.pz] at hl;obtain⟨n,y,hnm,hy,hwt⟩:=hf f (aj ..);rw[ho,hc] at hy;obtain⟨d1,k1,k2⟩:=hrec _ _ hr n hnm _ y hy hwt;obtain⟨d2,k3,k4⟩:=xn hrec fs (off+t.size) ts' h' ii (λg hg=>hf g (ad _ hg));refine⟨d1++d2,by rw[ee];exact⟨d1,d2,rfl,k1,k3⟩,?_⟩
   have e:cs.drop off=(cs.drop off).take t.size++cs.drop (off+t.size):=by
    rw[<-List.drop_drop,List.take_append_drop]
   rw[e];exact k2.append k4
def wL:∀(k:Nat) (t:TypeId) (ty:Ty),gD P k t=some ty->∀(n:Nat),n<=k->∀(c:List Value) (y:DataW Hh×List MemPlace),DataW.trod enc P w 0 (λ_=>true) held n t c=some y->(∀x∈y.1.weights P t,x<=B)->∃ds,kj B ty ds/\nL w ds c
 | 0,t,ty,h,n,hnk,_,_,hy,_=>by
  rw[Nat.le_zero.1 hnk] at hy;simp[DataW.trod] at hy
 | k+1,t,ty,h,n,hnk,c,y,hy,hwt=>by
  unfold gD at h
  cases hu:P.underlying t with
  | none=>rw[hu] at h;cases h
  | some u=>
   rw[hu] at h
   cases u with
   | bool=>
    cases h;obtain⟨b,rfl,_⟩:=DataW.trod_bool hu hy;exact⟨[.fl (.bool b)],by rw[kj];exact⟨b,rfl⟩,by rw[eh];exact⟨_,_,rfl,by rw[FK];exact⟨rfl,λσ=>.bool b⟩,by rw[jo]⟩⟩
   | int i=>
    cases h;obtain⟨m,rfl,_,wf⟩:=DataW.trod_int hu hy;exact⟨[.fl (.int i m)],by rw[kj];exact⟨m,rfl,wf⟩,by rw[eh];exact⟨_,_,rfl,by rw[FK];exact⟨rfl,λσ=>.int _ _⟩,by rw[jo]⟩⟩
   | string=>
    cases h;obtain⟨s,rfl,rfl,hs⟩:=DataW.trod_string hu hy
    have hlen:(kL s).length<=B:=by
     unfold kL;rw[b9];exact hwt _ (by simp[DataW.weights])
    exact⟨[.fl (.str (kL s))],by rw[kj];exact⟨_,rfl,tS s,hlen⟩,by rw[eh];exact⟨_,_,rfl,by rw[FK];exact⟨rfl,λσ=>.str rfl⟩,by rw[jo]⟩⟩
   | slice e=>
    simp only at h
    cases he:gD P k e with
    | none=>rw[he] at h;cases h
    | some te=>
     rw[he] at h;simp only[m7] at h;obtain⟨hb,h⟩:=aF h;cases h;rw[be] at hb;have hs:P.cellsOf e=te.size:=cW hb.1;obtain⟨hb1,hb2⟩:=hb;rw[be] at hb2;have hs0:0<te.size:=jy hb2.1;have hby:1<=P.bytesOf e:=jy hb2.2
     rcases U2 hu hy with⟨rfl,_⟩ | ⟨a,len,m,n',D,hnn,rfl,hl,hyx,hx⟩
     ·exact⟨[.sl true 0 te.size []],by rw[kj];exact⟨true,[],rfl,d8 _,λr hr=>(fu hr).elim⟩,by rw[eh];exact⟨_,_,rfl,by rw[FL];exact .inl ⟨rfl,rfl,rfl,rfl⟩,by rw[jo]⟩⟩
     ·rw[hs] at hx
      rcases d7 m with hm0 | hm0
      ·subst hm0
       have:len=0:=by omega
       subst this
       exact⟨[.sl false 0 te.size []],by rw[kj];exact⟨false,[],rfl,d8 _,λr hr=>(fu hr).elim⟩,
        by rw[eh];exact⟨_,_,rfl,by rw[FL];exact .inr ⟨rfl,a,0,rfl,ap _,.inl ⟨rfl,rfl,.inr rfl⟩⟩,by rw[jo]⟩⟩
      ·have hspot:a.spot=none:=by
        obtain⟨cs',_,h1,_⟩:=hx 0 hm0;obtain⟨_,h2,h3⟩:=World.cells?_some h1;have h4:=h3 0 ii
        have h5:0<cs'.length:=by omega
        rw[jp h5] at h4;have:=World.cell?_spot h4;simpa [Addr.add] using this
       obtain⟨b,o,sp⟩:=a;simp only at hspot;subst hspot
       have hcell:∀i,i<m->∃cs',cs'.length=te.size/\(∀k,k<te.size->w.cell? ⟨b,o+(i*te.size+k),none⟩=cs'[k]?)/\∃y,DataW.trod enc P w 0 (λ_=>true) held n' e cs'=some y/\y.1=D i:=by
        intro i hi;obtain⟨cs',y,h1,h2⟩:=hx i hi;obtain⟨_,h3,h4⟩:=World.cells?_some h1;refine⟨cs',h3,λk hk=>?_,y,h2⟩;have:=h4 k ii;rw[hY,hY] at this;rw[<-this];congr 2;omega
       obtain⟨cs0,hc1,hc2,_⟩:=hcell 0 hm0;have h00:=hc2 0 hs0;rw[jp ii] at h00;obtain⟨arr,e',f,hb',_⟩:=Cg h00
       have hgc:∀k v,w.cell? ⟨b,k,none⟩=some v->arr[k]?=some v:=by
        intro k v hk;obtain⟨c',e'',f',hb'',hv'⟩:=Cg hk;rw[hb'] at hb'';cases hb'';exact hv'
       have hsz:o+m*te.size<=arr.size:=by
        obtain⟨cs1,g1,g2,_⟩:=hcell (m-1) ii;have h01:=g2 (te.size-1) ii;rw[jp ii] at h01;have:=hgc _ _ h01
        have hlt:o+((m-1)*te.size+(te.size-1))<arr.size:=by
         apply Decidable.byContradiction;intro hn;rw[c2 ii] at this;cases this
        have hmul:m*te.size=(m-1)*te.size+te.size:=by
         have h9:=Nat.add_mul (m-1) 1 te.size;rw[Nat.sub_add_cancel hm0,Nat.one_mul] at h9;exact h9
        omega
       have hD:∀i,i<m->∀x∈(D i).weights P e,x<=B:=by
        intro i hi x hxw;refine hwt x ?_;rw[hyx];show x∈DataW.weights P t _;rw[DataW.weights,hu];simp only;refine ad _ ?_;by_cases hil:i<len
        ·exact d5 _ (nG hxw (mem_map.2 ⟨i,mem_range.2 hil,rfl⟩))
        ·exact cb _ (nG hxw (mem_map.2 ⟨i-len,mem_range.2 ii,by rw[show len+(i-len)=i by omega]⟩))
       have hlenB:len<=B:=by
        have:=hwt ((len+(m-len))*P.bytesOf e) (by
         rw[hyx];show _∈DataW.weights P t _;rw[DataW.weights,hu]
         simp)
        have h2:len+(m-len)<=(len+(m-len))*P.bytesOf e:=Nat.le_mul_of_pos_right _ hby;omega
       obtain⟨F,hF⟩:=choose_lt (α:=List Value×List DV) (n:=len) (p:=λi x=>x.1.length=te.size/\(∀k,k<te.size->w.cell? ⟨b,o+(i*te.size+k),none⟩=x.1[k]?)/\kj B te x.2/\nL w x.2 x.1) (λi hi=>by
        obtain⟨cs',g1,g2,y,g3,g4⟩:=hcell i ii;obtain⟨ds,k1,k2⟩:=wL k e te he n' ii cs' _ g3 (by rw[g4];exact hD i ii)
        exact⟨(cs',ds),g1,g2,k1,k2⟩)
       have hw1:∀r∈(bd len).map λi=>(F i).1,r.length=te.size:=by
        intro r hr;obtain⟨i,hi,rfl⟩:=mem_map.1 hr;exact(hF i (mem_range.1 hi)).1
       refine⟨[.sl false len te.size ((bd len).map λi=>(F i).2).flatten],?_,?_⟩
       ·rw[kj];refine⟨false,(bd len).map λi=>(F i).2,by rw[b9,ca],by rw[b9,ca];exact hlenB,λr hr=>?_⟩;obtain⟨i,hi,rfl⟩:=mem_map.1 hr;exact(hF i (mem_range.1 hi)).2.2.1
       ·rw[eh];refine⟨_,_,rfl,?_,by rw[jo]⟩;rw[FL];refine .inr ⟨rfl,_,m,rfl,hl,?_⟩
        rcases d7 len with hl0 | hl0
        ·subst hl0;exact .inl ⟨rfl,rfl,.inl rfl⟩
        ·refine .inr ⟨hl0,rfl,arr,e',f,((bd len).map λi=>(F i).1).flatten,hb',hsz,?_,?_,nL.rows λi hi=>(hF i hi).2.2.2⟩
         ·have:∀l:List Nat,(∀i∈l,i<len)->(l.map λi=>(F i).1).flatten.length=l.length*te.size:=by
           intro l
           induction l with
           | nil=>intro _;simp
           | cons a l ih=>
            intro hl;rw[ce,ba,li,ih λi hi=>hl i (ad _ hi),(hF a (hl a (aj ..))).1,i7,ci];omega
          rw[this _ λi hi=>mem_range.1 hi,ca]
         ·intro j u hu;obtain⟨i,q,r,rfl,hq,hr,hru⟩:=Gl hw1 hu;rw[bb] at hr
          cases hri:(bd len)[i]? with
          | none=>rw[hri] at hr;cases hr
          | some i'=>
           rw[hri] at hr;have hil:=(rg hri).1;rw[ca] at hil;rw[List.getElem?_range hil] at hri;cases hri;cases hr;exact hgc _ _ (((hF i hil).2.1 q hq).trans hru)
   | struct fs=>
    simp only at h
    cases hfs:gH P (gD P k) fs.toList 0 with
    | none=>rw[hfs] at h;cases h
    | some ts=>
     rw[hfs] at h;simp only[m7] at h;obtain⟨hb,h⟩:=aF h;cases h;have hb:=cW hb;obtain⟨xs,n',hnn,hyx,hl,hlen,hf⟩:=DataW.trod_struct hu hy
     obtain⟨ds,k1,k2⟩:=xn (cs:=c) (m:=k) (λt ty ht n hn c y hy hw=>wL k t ty ht n hn c y hy hw) fs.toList 0 ts hfs ii (λf hfm=>by
      obtain⟨i,hi⟩:=List.mem_iff_getElem?.1 hfm
      have hi':fs[i]?=some f:=by rw[<-aa];exact hi
      have:=hf i f hi'
      have hil:i<fs.size:=by
       have:=(rg hi).1;rw[b7] at this;exact this
      rw[jp ii] at this;refine⟨n',_,by omega,this,λx hx=>hwt x ?_⟩;rw[hyx];show x∈DataW.weights P t _;rw[DataW.weights,hu];simp only
      exact DataW.weights_mem_each (j:=i) (by rw[bb,hi];rfl) (by rw[bb,jp (show i<xs.length by omega)];rfl) x hx)
     rw[f5] at k2;exact⟨ds,by rw[kj];exact k1,k2⟩
   | _=>cases h
def Q7{d:DV}{v:Value}:nL w [d] [v]↔Wd w d v:=by
 rw[eh];constructor
 ·rintro⟨u,r,e,h,_⟩;simp only[mt] at e;rw[e.1];exact h
 ·intro h;exact⟨v,[],rfl,h,by rw[jo]⟩
def R7{t:Ty}{ds:List DV}(h:kj B t ds)(hn:∀ts,t≠.st ts):∃d,ds=[d]:=by
 have:=R6 h hn
 match ds,this with
 | [d],_=>exact⟨d,rfl⟩
def oM{t:TypeId}{tys:Nat->Ty}{v:Value}{d:DataW Hh}{ps:List MemPlace}{base:Nat}(ht:∀j,gD P (j+12) t=some (tys j))(hval:Value.okWide P w .any base t v)(hd:DataW.Trod enc P w 0 (λ_=>true) held t v d ps)(hwt:∀x∈d.weights P t,x<=B):∃j dv,VC B (tys j) dv/\Wd w dv v:=by
 obtain⟨fuel,hf⟩:=hd;refine⟨fuel,?_⟩;have ht:=ht fuel;generalize tys fuel=ty at ht ⊢;obtain⟨ds,k1,k2⟩:=wL (fuel+12) t ty ht fuel ii _ _ hf hwt
 have hflat:∀{v:Value},v.cells.toList=[v]->(∀ts,ty≠.st ts)->nL w ds v.cells.toList->∃dv,VC B ty dv/\Wd w dv v:=by
  intro v he hn k2;obtain⟨dv,rfl⟩:=R7 k1 hn;rw[he,Q7] at k2;refine⟨dv,?_,k2⟩
  cases ty with
  | st ts=>exact ul rfl (hn ts)
  | _=>exact k1
 unfold gD at ht
 cases hu:P.underlying t with
 | none=>rw[hu] at ht;cases ht
 | some u=>
  rw[hu] at ht
  cases u with
  | bool=>obtain⟨b,rfl⟩:=okWide_bool hu hval;cases ht;exact hflat rfl (λts h=>by cases h) k2
  | int i=>obtain⟨b,rfl⟩:=okWide_int hu hval;cases ht;exact hflat rfl (λts h=>by cases h) k2
  | string=>obtain⟨b,rfl⟩:=okWide_string hu hval;cases ht;exact hflat rfl (λts h=>by cases h) k2
  | slice e=>
   obtain⟨a,l,c,rfl⟩:=okWide_slice hu hval;simp only at ht
   cases he:gD P (fuel+11) e with
   | none=>rw[he] at ht;cases ht
   | some te=>
    rw[he] at ht;simp only[m7] at ht;obtain⟨_,ht⟩:=aF ht;cases ht;exact hflat rfl (λts h=>by cases h) k2
  | struct fs=>
   obtain⟨cs,rfl,_⟩:=okWide_struct hu hval;simp only at ht
   cases hfs:gH P (gD P (fuel+11)) fs.toList 0 with
   | none=>rw[hfs] at ht;cases ht
   | some ts=>
    rw[hfs] at ht;simp only[m7] at ht;obtain⟨_,ht⟩:=aF ht;cases ht;rw[kj] at k1;refine⟨.ag ds,⟨ds,rfl,k1⟩,?_⟩;rw[N8];exact⟨cs,rfl,k2⟩
  | _=>cases ht
end
section
variable {B:Nat} {ts:List Ty} {ds:List DV} {s:Bool} {h:H}
def iC(hk:ee B [] ds):ds=[]:=by rw[ee] at hk;exact hk
def cZ(hk:ee B (.str::ts) ds):∃(x:List Nat) (r:List DV),ds=.fl (.str x)::r/\(∀b∈x,b<256)/\x.length<=B/\ee B ts r:=by
 rw[ee] at hk;obtain⟨d1,d2,rfl,h1,h2⟩:=hk;rw[kj] at h1;obtain⟨x,rfl,h3,h4⟩:=h1;exact⟨x,d2,rfl,h3,h4,h2⟩
def dL{k:IntKind}(hk:ee B (.int k::ts) ds):∃(n:Int) (r:List DV),ds=.fl (.int k n)::r/\(Lit.int k n).wf=true/\ee B ts r:=by
 rw[ee] at hk;obtain⟨d1,d2,rfl,h1,h2⟩:=hk;rw[kj] at h1;obtain⟨n,rfl,h3⟩:=h1;exact⟨n,d2,rfl,h3,h2⟩
def M5(hk:ee B (.bool::ts) ds):∃(b:Bool) (r:List DV),ds=.fl (.bool b)::r/\ee B ts r:=by
 rw[ee] at hk;obtain⟨d1,d2,rfl,h1,h2⟩:=hk;rw[kj] at h1;obtain⟨b,rfl⟩:=h1;exact⟨b,d2,rfl,h2⟩
def iV{t:Ty}(hk:ee B (.sl t::ts) ds):∃(nl:Bool) (rows:List (List DV)) (r:List DV),ds=.sl nl rows.length t.size rows.flatten::r/\rows.length<=B/\(∀x∈rows,kj B t x)/\ee B ts r:=by
 rw[ee] at hk;obtain⟨d1,d2,rfl,h1,h2⟩:=hk;rw[kj] at h1;obtain⟨nl,rows,rfl,h3,h4⟩:=h1;exact⟨nl,rows,d2,rfl,h3,h4,h2⟩
def Ha:∀{us:List Ty} {d1 d2:List DV},ee B us d1->ee B ts d2->ee B (us++ts) (d1++d2)
 | [],d1,d2,h1,h2=>by rw[ee] at h1;subst h1;exact h2
 | u::us,d1,d2,h1,h2=>by
  rw[ee] at h1;obtain⟨e1,e2,rfl,h3,h4⟩:=h1;show ee B (u::(us++ts)) _;rw[ee];exact⟨e1,e2++d2,List.append_assoc ..,h3,Ha h4 h2⟩
def uD{us:List Ty}(hk:ee B (.st us::ts) ds):ee B (us++ts) ds:=by
 rw[ee] at hk;obtain⟨d1,d2,rfl,h1,h2⟩:=hk;rw[kj] at h1;exact Ha h1 h2
end
def zk:Ex->Bool
 | .normal=>true
 | _=>false
def Bx:Ex->LoopState
 | .normal=>.ready
 | _=>.done
def Bw:Ex->Option Code
 | .normal=>none
 | .ret=>some .ret
 | .exit i=>some (.exit i)
 | .goto l=>some (.goto l)
noncomputable def Nu(t:Tr AV):Nat->AV:=λi=>(t.get i).getD mg
def TC(id:Nat)(Q:AV->H->Prop):Ex->iJ->Prop:=λex st=>st.ds=[]/\∃ls p t n ps a b d,st.h.qh id=some (ls,p,t,n,ps,a,b,d)/\Q (.bool (zk ex)) (st.h.set id (.loop (Bx ex) (Bw ex) t n ps a b d))
def QZ(P:Program)(id:Nat)(b:Code)(Q:AV->H->Prop):Ex->iJ->Prop:=λex st=>ex=.normal/\∃p t n ps a' b' d,st.h.qh id=some (.ready,p,t,n,ps,a',b',d)/\
 mh P (some id) b ⟨st.f,st.n,st.h.set id (.loop .busy p t n ps a' b' d),st.ds⟩ (TC id Q)
def ef.yield{P:Program}{id:Nat}{args:List AV}{h:H}{Q:AV->H->Prop}{pend:Option Code}{t:Tr AV}{n:Nat}{ps:Array Tmp}{a b:Code}{dd:Nat}{t1:Tr AV}{f1:Nat->AV}
 (hlo:h.qh id=some (.ready,pend,t,n,ps,a,b,dd)) (hsz:ps.toList.length=args.length) (ht1:jL (ps.toList.zip args) n t=some t1) (hf1:∀i,i<n->f1 i=Nu t1 i)
 (hw:mh P (some id) a ⟨f1,n,h,[]⟩ (QZ P id b Q)):ef P (.yield id) args h Q:=by
 intro σ w p args' hp hv hr;obtain⟨hob,q,hq,f,tmps,qd,hwp,hqd,hT⟩:=u9 hr hlo;rw[hp] at hq;cases hq
 have hsz':args'.size=ps.size:=by have:=hv.1;simp at this hsz;omega
 rw[NN hwp hsz'];intro m;refine roundIn_of_wpIn trivial ?_
 have hT1:TR σ t1 n ((ps.zip args').foldl (λtmps (x:Tmp×Value)=>tmps.setIfInBounds x.1 x.2) tmps):=by
  have:=uZ ps.toList args args'.toList n t t1 tmps ht1 hv hT;rw[<-Array.foldl_toList,Array.toList_zip];exact this
 have hTF:TF σ f1 n ((ps.zip args').foldl (λtmps (x:Tmp×Value)=>tmps.setIfInBounds x.1 x.2) tmps):=⟨hT1.1,λi hi=>by rw[hf1 i hi];exact hT1.2 i⟩;have hassign:=hw (Fence.wide.inRound p.b) m σ { tmps:=(ps.zip args').foldl (λtmps (x:Tmp×Value)=>tmps.setIfInBounds x.1 x.2) tmps,defers:=[] } w ⟨hTF,hr,trivial⟩ ⟨p,hp,rfl⟩;refine wpIn_mono hassign ?_;rintro e a1 w1 ⟨ex1,st1,⟨rfl,pend2,t2,n2,ps2,a2,b2,dd2,hlo2,hb2⟩,hex1,σ1,hs1,hE1,hn1⟩;have:e=.normal:=hex1;subst this;obtain⟨hob2,q2,hq2,f2,tmps2,qd2,hw2,hqd2,hT2⟩:=u9 hs1.h hlo2;rw[hE1.le _ _ hp] at hq2;cases hq2;have hbegin:=yV (P:=P) hw2 rfl;obtain⟨s1,s2⟩:=hs1.h.kh (o':=.loop .busy pend2 t2 n2 ps2 a2 b2 dd2) (ob:=.loop { state:=.busy,pending:=pend2,fn:=f2,tmps:=tmps2,params:=ps2,assign:=a2,body:=b2,defers:=qd2.b }) hob2 rfl rfl (hE1.le _ _ hp) ⟨f2,tmps2,qd2,rfl,hqd2,hT2⟩;refine⟨_,hbegin,?_⟩;have hbody:=hb2 (Fence.wide.inRound p.b) m σ1 a1 _ ⟨hs1.t,s1,hs1.ds⟩ ⟨p,hE1.le _ _ hp,rfl⟩;refine wpIn_mono hbody ?_;rintro e3 a3 w3 ⟨ex3,st3,⟨hds3,ls4,p4,t4,n4,ps4,a4,b4,dd4,hlo4,hQ⟩,hex3,σ3,hs3,hE3,hn3⟩;have hE13:=(hE1.trans s2).trans hE3;obtain⟨hob4,q4,hq4,f4,tmps4,qd4,hw4,hqd4,hT4⟩:=u9 hs3.h hlo4;rw[hE13.le _ _ hp] at hq4;cases hq4
 have fin:∀(s:LoopState) (j:Option Code) (r:Bool),Q (.bool r) (st3.h.set id (.loop s j t4 n4 ps4 a4 b4 dd4))->r=j.isNone->s=(if j.isNone then .ready else .done)->
  ∃v w'',(Instr.endRound p.b j).run P w3=.ok v w''/\∃v',Ending.returned v=.returned v'/\FG σ h w Q v' w'':=by
  intro s j r e1 e2 e3;obtain⟨u1,u2⟩:=hs3.h.kh (o':=.loop s j t4 n4 ps4 a4 b4 dd4) (ob:=.loop { state:=s,pending:=j,fn:=f4,tmps:=tmps4,params:=ps4,assign:=a4,body:=b4,defers:=qd4.b }) hob4 rfl rfl (hE13.le _ _ hp) ⟨f4,tmps4,qd4,rfl,hqd4,hT4⟩;refine⟨_,_,DO hw4 j,_,rfl,.bool r,_,e1,σ3,by rw[e2];exact .bool _,?_,?_⟩
  ·rw[<-e3];exact u1
  ·rw[<-e3];exact hE13.trans u2
 cases ex3 with
 | normal=>
  have:e3=.normal:=hex3;subst this;exact fin _ _ _ hQ rfl rfl
 | ret=>
  have:e3=.ret:=hex3;subst this;exact fin _ _ _ hQ rfl rfl
 | exit i=>
  have:e3=.exit i:=hex3;subst this;exact fin _ _ _ hQ rfl rfl
 | goto l=>
  have:e3=.goto l:=hex3;subst this;exact fin _ _ _ hQ rfl rfl
def N3(P:Program)(ro:Option Nat)(f:Nat->AV)(n:Nat)(ds:List kr)(id:Nat)(Q:Ex->iJ->Prop)(h':H):Prop:=∃ls p' t' m' ps' a' b' d',h'.qh id=some (ls,p',t',m',ps',a',b',d')/\ls≠.busy/\
 match p' with
 | none=>Q .normal ⟨f,n,h'.set id (.loop .exhausted none t' m' ps' a' b' d'),ds⟩
 | some c=>mh P ro c ⟨f,n,h'.set id (.loop .exhausted (some c) t' m' ps' a' b' d'),ds⟩ Q
def mh.rangeFunc{P:Program}(hng:tG P){ro:Option Nat}{g:Operand}{ps:Array Tmp}{assign body:Code}{f:Nat->AV}{n:Nat}{h:H}{ds:List kr}{Q:Ex->iJ->Prop}{fid:FuncId}{fn':Func}{first cap:List AV}{id:Nat}{h1:H}{ds1:List kr}
 (hg:ev (eB f n) g=some (.fn (.func fid) first cap)) (hfn:P.funcs[fid]?=some fn') (hb:fn'.body.isSome=true) (hen:DP ro ps assign body ⟨eB f n,n,h,ds⟩=some (id,⟨eB f n,n,h1,ds1⟩)) {Q1:AV->H->Prop}
 (hc:ef P (.func fid) (first++[.fn (.yield id) [] []]++cap) h1 Q1) (hk:∀v h',Q1 v h'->N3 P ro f n ds1 id Q h'):mh P ro (.rangeFunc g ps assign body) ⟨f,n,h,ds⟩ Q:=by
 intro F m σ a w hs hF;have hgV:=hs.sr.t.ev _ _ hg;refine wpIn_rangeFunc λfn _=>?_;obtain⟨lb,mark,w1,σ1,p,e1,hp,rfl,hs1,hE1,hn1⟩:=MF (P:=P) hF hs.sr hen fn;generalize hgv:a.eval g=gv at hgV
 cases hgV with
 | @fn _ _ _ fs' cs' hfy k1 k2 k3 k4=>
  have hfs:VL σ1 first fs'.toList:=⟨by simpa using k1,λi a v x y=>(k2 i a v x (by simpa using y)).mono hE1.le⟩
  have hcs:VL σ1 cap cs'.toList:=⟨by simpa using k3,λi a v x y=>(k4 i a v x (by simpa using y)).mono hE1.le⟩
  have hargs:VL σ1 (first++[.fn (.yield id) [] []]++cap) (fs'++#[Value.func (.yield p.b) #[] #[]]++cs').toList:=by
   simp only[bc];exact(hfs.append (.cons (.yield hp) .nil)).append hcs
  have hfine:=hc σ1 w1 _ hargs hs1.h
  have hev:#[Operand.const (Value.func (.yield p.b) #[] #[])].map a.eval=#[Value.func (.yield p.b) #[] #[]]:=by simp[Act.eval]
  have hres:(resolve a.eval (rangeCall g p.b) 0).run P w1=.ok { target:=.fn (.func fid) cs',args:=fs'++#[Value.func (.yield p.b) #[] #[]] } w1:=by
   simp only[resolve,hgv,Deferred.ofValue,m9,hev]
  have hcall:=ei hng hfn hb (fs'++#[Value.func (.yield p.b) #[] #[]]++cs') w1;rw[hcall] at hfine;refine⟨p.b,mark,w1,_,w1,fid,_,w1,e1,hres,λf' _=>hF.fn f',by simpa only[invoke] using hcall,λh=>by rw[hF.depth] at h;simp at h,?_⟩;have h2:=hF.calls (n:=m-1) hfine;refine⟨h2.1,λcs hr=>?_⟩;obtain⟨e,w3,fr,⟨v,rfl,av,h',hQ1,σ3,hV,hh3,hE3⟩,h3⟩:=h2.2 cs hr;refine⟨.returned v,w3,fr,?_,h3⟩;obtain⟨ls,p',t',m',ps',a',b',d',hlo,hnb,hq⟩:=hk _ _ hQ1;obtain⟨ho',q,hq',f0,tm0,qd,g1,g2,g3⟩:=u9 hh3 hlo;rw[hE3.le _ _ hp] at hq';cases hq'
  obtain⟨s1,s2⟩:=hh3.kh (o':=.loop .exhausted p' t' m' ps' a' b' d') (ob:=.loop { state:=.exhausted,pending:=p',fn:=f0,tmps:=tm0,params:=ps',assign:=a',body:=b',defers:=qd.b }) ho' rfl rfl (hE3.le _ _ hp)
   ⟨f0,tm0,qd,rfl,g2,g3⟩
  have hend:(Instr.endLoop p.b).run P w3=.ok p' { w3 with heap:=w3.heap.setIfInBounds p.b (.loop { state:=.exhausted,pending:=p',fn:=f0,tmps:=tm0,params:=ps',assign:=a',body:=b',defers:=qd.b }) }:=by
   have hbz:(ls==LoopState.busy)=false:=by cases ls<;>first | rfl | exact ul rfl hnb
   simp only[Instr.endLoop,Instr.getLoop,ne,cm g1 gc,pp,m9,hbz,aY,if_false,ez g1 gc]
  refine⟨p',_,hend,?_⟩;have hext:=(hE1.trans hE3).trans s2
  have hsf:SF σ3 ⟨f,n,h'.set id (.loop .exhausted p' t' m' ps' a' b' d'),ds1⟩ { a with defers:=mark++a.defers } { w3 with heap:=w3.heap.setIfInBounds p.b (.loop { state:=.exhausted,pending:=p',fn:=f0,tmps:=tm0,params:=ps',assign:=a',body:=b',defers:=qd.b }) }:=
   ⟨hs.t.mono (λi q hi=>hE3.le _ _ (hE1.le _ _ hi)),s1,hs1.ds.mono hE3.le⟩
  cases p' with
  | none=>exact⟨_,_,hq,rfl,σ3,hsf,hext,rfl⟩
  | some c=>exact mh.wide (st:=⟨f,n,_,ds1⟩) hq hsf (hF.mono hext.le) hext rfl
def mh.uL{P:Program}(hng:tG P){g:Operand}{ps:Array Tmp}{assign body:Code}{f:Nat->AV}{n:Nat}{O:Tr AO}{F:Tr (Nat×Nat)}{N lw:Nat}{ds:List kr}{Q:Ex->iJ->Prop}{fid:FuncId}{fn':Func}{first cap:List AV}
 (hg:ev (eB f n) g=some (.fn (.func fid) first cap)) (hfn:P.funcs[fid]?=some fn') (hb:fn'.body.isSome=true) {Q1:AO->AV->H->Prop}
 (hc:∀lp,lp=AO.loop .ready none (eB f n) n ps assign body N->ef P (.func fid) (first++[.fn (.yield (N+1)) [] []]++cap) ⟨(O.put N (some (.nd false))).put (N+1) (some lp),F,N+2,lw⟩ (Q1 lp))
 (hk:∀lp v h',lp=AO.loop .ready none (eB f n) n ps assign body N->Q1 lp v h'->N3 P none f n ({ fn:=none,FU:=N,args:=[],cap:=[] }::ds) (N+1) Q h'):mh P none (.rangeFunc g ps assign body) ⟨f,n,⟨O,F,N,lw⟩,ds⟩ Q:=
 mh.rangeFunc hng hg hfn hb rfl (hc _ rfl) λv h' h1=>hk _ v h' rfl h1
inductive SV where
 | any
 | a (v:AV)
 | sl (n e:Nat) (cs:List SV)
 | im (ks:List AV) (vs:List SV)
 | ip (cs:List SV)
 | ptr (o off:Nat)
 | map (o:Nat)
 | buf (o n e:Nat) (c:Option Nat)
 | sub (o off n e:Nat) (c:Option Nat)
 | e0 (e:Nat)
 | ag (cs:List SV)
 | cq (vs:List SV)
 | fn (g:FuncId) (first cap:List SV)
 | iface (t:TypeId) (v:SV)
 deriving Inhabited
abbrev Fm:=List (Nat×SV)
def aP:Fm->Nat->SV
 | [],_=>.any
 | (d,v)::l,i=>if d=i then v else aP l i
structure jP where
 id:Nat
 t:Tr AV
 n:Nat
 ps:Array Tmp
 a:Code
 b:Code
 d:Nat
inductive SO where
 | cells (cs:List SV)
 | map (ks:List AV) (vs:List SV) (b:Option (List Nat×Nat))
 | iter (m:SV) (bs:List Nat) (c:Nat) (pos:List Nat)
 | pI (ks:List AV) (vs:List SV) (bs:List Nat) (c:Nat) (pos:List Nat)
 | gone
 | loop (c:jP) (ls:LoopState) (p:Option Code) (f:List (Nat×SV))
 | nd (N:Nat)
structure Loc where
 id:Nat
 bQ:Nat
 x:Nat
 y:Nat
abbrev kG:=Nat->Option AO
def ot(l:List (AV×AV×Nat))(c:Nat):Prop:=(l.map (·.2.2)).Nodup/\∀e∈l,e.2.2<c
def Q3(l:List (AV×AV×Nat))(c:Nat)(ks:List AV)(b:Option (List Nat×Nat)):Prop:=l.map (·.1)=ks/\ot l c/\∀p,b=some p->l.map (·.2.2)=p.1/\c=p.2
def wI(ρ:kG)(id:Nat):Option (List AV):=match ρ id with
 | some (.cells cs _)=>some cs
 | some (.ro cs)=>some cs
 | _=>none
mutual
def GS(ρ:kG):SV->AV->Prop
 | .any,_=>True
 | .a v,x=>x=v
 | .sl n e cs,x=>(n=0/\cs=[]/\∃o e' c,x=.slice o 0 e' c/\(o=none->c=some 0)/\(o≠none->e'=e))\/
  (∃id off cap row,x=.slice (some (id,off)) n e cap/\wI ρ id=some row/\off+n*e<=row.length/\kn ρ cs ((row.drop off).take (n*e)))
 | .im ks vs,x=>∃id l c,x=.map (some id)/\ρ id=some (.map l c)/\Q3 l c ks none/\kn ρ vs (l.map (·.2.1))
 | .ip cs,x=>∃id off row r,x=.ptr (some (id,off))/\wI ρ id=some row/\off+r<=row.length/\kn ρ cs ((row.drop off).take r)
 | .ptr _ _,_=>False
 | .map _,_=>False
 | .buf _ _ _ _,_=>False
 | .sub _ _ _ _ _,_=>False
 | .e0 e,x=>∃o e',x=.slice o 0 e' (some 0)/\(o≠none->e'=e)
 | .ag cs,x=>∃aS,x=.agg aS/\kn ρ cs aS
 | .cq cs,x=>∃aS,x=.cq aS/\kn ρ cs aS
 | .fn g first cap,x=>∃xs ys,x=.fn (.func g) xs ys/\kn ρ first xs/\kn ρ cap ys
 | .iface t v,x=>∃y,x=.iface t y/\GS ρ v y
def kn(ρ:kG):List SV->List AV->Prop
 | [],aS=>aS=[]
 | d::ds,aS=>∃a r,aS=a::r/\GS ρ d a/\kn ρ ds r
end
mutual
def VS(θ:Nat->Loc)(ρ:kG):SV->AV->Prop
 | .any,_=>True
 | .a v,x=>x=v
 | .sl n e cs,x=>GS ρ (.sl n e cs) x
 | .im ks vs,x=>GS ρ (.im ks vs) x
 | .ip cs,x=>GS ρ (.ip cs) x
 | .ptr o off,x=>x=.ptr (some ((θ o).id,off))
 | .map o,x=>x=.map (some (θ o).id)
 | .buf o n e c,x=>x=.slice (some ((θ o).id,0)) n e c
 | .sub o off n e c,x=>x=.slice (some ((θ o).id,off)) n e c
 | .e0 e,x=>∃o e',x=.slice o 0 e' (some 0)/\(o≠none->e'=e)
 | .ag cs,x=>∃aS,x=.agg aS/\da θ ρ cs aS
 | .cq cs,x=>∃aS,x=.cq aS/\da θ ρ cs aS
 | .fn g first cap,x=>∃xs ys,x=.fn (.func g) xs ys/\da θ ρ first xs/\da θ ρ cap ys
 | .iface t v,x=>∃y,x=.iface t y/\VS θ ρ v y
def da(θ:Nat->Loc)(ρ:kG):List SV->List AV->Prop
 | [],aS=>aS=[]
 | d::ds,aS=>∃a r,aS=a::r/\VS θ ρ d a/\da θ ρ ds r
end
section
variable {θ:Nat->Loc} {ρ:kG} {x:AV}
def e7{aS:List AV}:kn ρ [] aS↔aS=[]:=by rw[kn]
def dS{d:SV}{ds:List SV}{aS:List AV}:kn ρ (d::ds) aS↔∃a r,aS=a::r/\GS ρ d a/\kn ρ ds r:=by rw[kn]
def bj{aS:List AV}:da θ ρ [] aS↔aS=[]:=by rw[da]
def aM{d:SV}{ds:List SV}{aS:List AV}:da θ ρ (d::ds) aS↔∃a r,aS=a::r/\VS θ ρ d a/\da θ ρ ds r:=by rw[da]
def kn.length:∀{ds:List SV} {aS:List AV},kn ρ ds aS->aS.length=ds.length
 | [],aS,h=>by rw[e7] at h;subst h;rfl
 | d::ds,aS,h=>by
  rw[dS] at h;obtain⟨a,r,rfl,_,h2⟩:=h;simp[kn.length h2]
def da.length:∀{ds:List SV} {aS:List AV},da θ ρ ds aS->aS.length=ds.length
 | [],aS,h=>by rw[bj] at h;subst h;rfl
 | d::ds,aS,h=>by
  rw[aM] at h;obtain⟨a,r,rfl,_,h2⟩:=h;simp[da.length h2]
mutual
def GS.vs:∀{v:SV} {x:AV},GS ρ v x->VS θ ρ v x
 | .any,_,_=>by rw[VS];trivial
 | .a v,x,h=>by rw[VS];rw[GS] at h;exact h
 | .sl n e cs,x,h=>by rw[VS];exact h
 | .im ks vs,x,h=>by rw[VS];exact h
 | .ip cs,x,h=>by rw[VS];exact h
 | .ptr _ _,_,h=>by rw[GS] at h;exact h.elim
 | .map _,_,h=>by rw[GS] at h;exact h.elim
 | .buf _ _ _ _,_,h=>by rw[GS] at h;exact h.elim
 | .sub _ _ _ _ _,_,h=>by rw[GS] at h;exact h.elim
 | .e0 e,x,h=>by rw[GS] at h;rw[VS];exact h
 | .ag cs,x,h=>by rw[VS];rw[GS] at h;obtain⟨aS,h1,h2⟩:=h;exact⟨aS,h1,kn.vs h2⟩
 | .cq cs,x,h=>by rw[VS];rw[GS] at h;obtain⟨aS,h1,h2⟩:=h;exact⟨aS,h1,kn.vs h2⟩
 | .fn g f c,x,h=>by rw[VS];rw[GS] at h;obtain⟨xs,ys,h1,h2,h3⟩:=h;exact⟨xs,ys,h1,kn.vs h2,kn.vs h3⟩
 | .iface t v,x,h=>by rw[VS];rw[GS] at h;obtain⟨y,h1,h2⟩:=h;exact⟨y,h1,GS.vs h2⟩
def kn.vs:∀{ds:List SV} {aS:List AV},kn ρ ds aS->da θ ρ ds aS
 | [],aS,h=>by rw[bj];rw[e7] at h;exact h
 | d::ds,aS,h=>by
  rw[aM];rw[dS] at h;obtain⟨a,r,h1,h2,h3⟩:=h;exact⟨a,r,h1,GS.vs h2,kn.vs h3⟩
end
def CZ{ρ':kG}(hm:∀id ob,ρ id=some ob->ρ' id=some ob){id:Nat}{row:List AV}(h:wI ρ id=some row):wI ρ' id=some row:=by
 unfold wI at h ⊢
 cases hr:ρ id with
 | none=>rw[hr] at h;cases h
 | some ob=>rw[hm id ob hr];rw[hr] at h;exact h
mutual
def GS.mono{ρ':kG}(hm:∀id ob,ρ id=some ob->ρ' id=some ob):∀{v:SV} {x:AV},GS ρ v x->GS ρ' v x
 | .any,_,_=>by rw[GS];trivial
 | .a v,x,h=>by rw[GS] at h ⊢;exact h
 | .sl n e cs,x,h=>by
  rw[GS] at h ⊢
  rcases h with h | ⟨id,off,cap,row,h1,h2,h3,h4⟩
  ·exact .inl h
  ·exact .inr ⟨id,off,cap,row,h1,CZ hm h2,h3,kn.mono hm h4⟩
 | .im ks vs,x,h=>by
  rw[GS] at h ⊢;obtain⟨id,l,c,h1,h2,h3,h4⟩:=h;exact⟨id,l,c,h1,hm _ _ h2,h3,kn.mono hm h4⟩
 | .ip cs,x,h=>by
  rw[GS] at h ⊢;obtain⟨id,off,row,r,h1,h2,h3,h4⟩:=h;exact⟨id,off,row,r,h1,CZ hm h2,h3,kn.mono hm h4⟩
 | .ptr _ _,_,h=>by rw[GS] at h;exact h.elim
 | .map _,_,h=>by rw[GS] at h;exact h.elim
 | .buf _ _ _ _,_,h=>by rw[GS] at h;exact h.elim
 | .sub _ _ _ _ _,_,h=>by rw[GS] at h;exact h.elim
 | .e0 e,x,h=>by rw[GS] at h ⊢;exact h
 | .ag cs,x,h=>by rw[GS] at h ⊢;obtain⟨aS,h1,h2⟩:=h;exact⟨aS,h1,kn.mono hm h2⟩
 | .cq cs,x,h=>by rw[GS] at h ⊢;obtain⟨aS,h1,h2⟩:=h;exact⟨aS,h1,kn.mono hm h2⟩
 | .fn g f c,x,h=>by rw[GS] at h ⊢;obtain⟨xs,ys,h1,h2,h3⟩:=h;exact⟨xs,ys,h1,kn.mono hm h2,kn.mono hm h3⟩
 | .iface t v,x,h=>by rw[GS] at h ⊢;obtain⟨y,h1,h2⟩:=h;exact⟨y,h1,GS.mono hm h2⟩
def kn.mono{ρ':kG}(hm:∀id ob,ρ id=some ob->ρ' id=some ob):∀{ds:List SV} {aS:List AV},kn ρ ds aS->kn ρ' ds aS
 | [],aS,h=>by rw[e7] at h ⊢;exact h
 | d::ds,aS,h=>by
  rw[dS] at h ⊢;obtain⟨a,r,h1,h2,h3⟩:=h;exact⟨a,r,h1,GS.mono hm h2,kn.mono hm h3⟩
end
mutual
def VS.mono{ρ':kG}(hm:∀id ob,ρ id=some ob->ρ' id=some ob):∀{v:SV} {x:AV},VS θ ρ v x->VS θ ρ' v x
 | .any,_,_=>by rw[VS];trivial
 | .a v,x,h=>by rw[VS] at h ⊢;exact h
 | .sl n e cs,x,h=>by rw[VS] at h ⊢;exact h.mono hm
 | .im ks vs,x,h=>by rw[VS] at h ⊢;exact h.mono hm
 | .ip cs,x,h=>by rw[VS] at h ⊢;exact h.mono hm
 | .ptr _ _,_,h=>by rw[VS] at h ⊢;exact h
 | .map _,_,h=>by rw[VS] at h ⊢;exact h
 | .buf _ _ _ _,_,h=>by rw[VS] at h ⊢;exact h
 | .sub _ _ _ _ _,_,h=>by rw[VS] at h ⊢;exact h
 | .e0 e,x,h=>by rw[VS] at h ⊢;exact h
 | .ag cs,x,h=>by rw[VS] at h ⊢;obtain⟨aS,h1,h2⟩:=h;exact⟨aS,h1,da.mono hm h2⟩
 | .cq cs,x,h=>by rw[VS] at h ⊢;obtain⟨aS,h1,h2⟩:=h;exact⟨aS,h1,da.mono hm h2⟩
 | .fn g f c,x,h=>by rw[VS] at h ⊢;obtain⟨xs,ys,h1,h2,h3⟩:=h;exact⟨xs,ys,h1,da.mono hm h2,da.mono hm h3⟩
 | .iface t v,x,h=>by rw[VS] at h ⊢;obtain⟨y,h1,h2⟩:=h;exact⟨y,h1,VS.mono hm h2⟩
def da.mono{ρ':kG}(hm:∀id ob,ρ id=some ob->ρ' id=some ob):∀{ds:List SV} {aS:List AV},da θ ρ ds aS->da θ ρ' ds aS
 | [],aS,h=>by rw[bj] at h ⊢;exact h
 | d::ds,aS,h=>by
  rw[aM] at h ⊢;obtain⟨a,r,h1,h2,h3⟩:=h;exact⟨a,r,h1,VS.mono hm h2,da.mono hm h3⟩
end
mutual
def names(o:Nat):SV->Bool
 | .ptr p _=>decide (p=o)
 | .map p=>decide (p=o)
 | .buf p _ _ _=>decide (p=o)
 | .sub p _ _ _ _=>decide (p=o)
 | .ag cs=>fp o cs
 | .cq cs=>fp o cs
 | .fn _ f c=>fp o f||fp o c
 | .iface _ v=>names o v
 | _=>false
def fp(o:Nat):List SV->Bool
 | []=>false
 | d::ds=>names o d||fp o ds
end
mutual
def VS.vf{θ':Nat->Loc}{o:Nat}(hθ:∀p,p≠o->θ' p=θ p):∀{v:SV} {x:AV},names o v=false->VS θ ρ v x->VS θ' ρ v x
 | .any,_,_,_=>by rw[VS];trivial
 | .a v,x,_,h=>by rw[VS] at h ⊢;exact h
 | .sl n e cs,x,_,h=>by rw[VS] at h ⊢;exact h
 | .im ks vs,x,_,h=>by rw[VS] at h ⊢;exact h
 | .ip cs,x,_,h=>by rw[VS] at h ⊢;exact h
 | .ptr p _,_,hn,h=>by rw[VS] at h ⊢;rw[names] at hn;rw[hθ p (wt hn)];exact h
 | .map p,_,hn,h=>by rw[VS] at h ⊢;rw[names] at hn;rw[hθ p (wt hn)];exact h
 | .buf p _ _ _,_,hn,h=>by rw[VS] at h ⊢;rw[names] at hn;rw[hθ p (wt hn)];exact h
 | .sub p _ _ _ _,_,hn,h=>by rw[VS] at h ⊢;rw[names] at hn;rw[hθ p (wt hn)];exact h
 | .e0 e,x,_,h=>by rw[VS] at h ⊢;exact h
 | .ag cs,x,hn,h=>by rw[VS] at h ⊢;rw[names] at hn;obtain⟨aS,h1,h2⟩:=h;exact⟨aS,h1,da.vf hθ hn h2⟩
 | .cq cs,x,hn,h=>by rw[VS] at h ⊢;rw[names] at hn;obtain⟨aS,h1,h2⟩:=h;exact⟨aS,h1,da.vf hθ hn h2⟩
 | .fn g f c,x,hn,h=>by
  rw[VS] at h ⊢;rw[names,bk] at hn;obtain⟨xs,ys,h1,h2,h3⟩:=h;exact⟨xs,ys,h1,da.vf hθ hn.1 h2,da.vf hθ hn.2 h3⟩
 | .iface t v,x,hn,h=>by rw[VS] at h ⊢;rw[names] at hn;obtain⟨y,h1,h2⟩:=h;exact⟨y,h1,VS.vf hθ hn h2⟩
def da.vf{θ':Nat->Loc}{o:Nat}(hθ:∀p,p≠o->θ' p=θ p):∀{ds:List SV} {aS:List AV},fp o ds=false->da θ ρ ds aS->da θ' ρ ds aS
 | [],aS,_,h=>by rw[bj] at h ⊢;exact h
 | d::ds,aS,hn,h=>by
  rw[aM] at h ⊢;rw[fp,bk] at hn;obtain⟨a,r,h1,h2,h3⟩:=h;exact⟨a,r,h1,VS.vf hθ hn.1 h2,da.vf hθ hn.2 h3⟩
end
def da.app:∀{d1 d2:List SV} {a1 a2:List AV},da θ ρ d1 a1->da θ ρ d2 a2->da θ ρ (d1++d2) (a1++a2)
 | [],d2,a1,a2,h1,h2=>by rw[bj] at h1;subst h1;exact h2
 | d::ds,d2,a1,a2,h1,h2=>by
  rw[aM] at h1;obtain⟨a,r,rfl,g1,g2⟩:=h1;show da θ ρ (d::(ds++d2)) _;rw[aM];exact⟨a,r++a2,rfl,g1,da.app g2 h2⟩
def da.drop:∀(k:Nat) {ds:List SV} {aS:List AV},da θ ρ ds aS->da θ ρ (ds.drop k) (aS.drop k)
 | 0,_,_,h=>h
 | k+1,[],aS,h=>by rw[bj] at h;subst h;rw[c3,c3,bj]
 | k+1,d::ds,aS,h=>by
  rw[aM] at h;obtain⟨a,r,rfl,_,h2⟩:=h;exact da.drop k h2
def da.take:∀(k:Nat) {ds:List SV} {aS:List AV},da θ ρ ds aS->da θ ρ (ds.take k) (aS.take k)
 | 0,_,_,h=>by rw[cM,cM,bj]
 | k+1,[],aS,h=>by rw[bj] at h;subst h;rw[c5,c5,bj]
 | k+1,d::ds,aS,h=>by
  rw[aM] at h;obtain⟨a,r,rfl,h1,h2⟩:=h;rw[bH,bH,aM];exact⟨a,_,rfl,h1,da.take k h2⟩
def kn.drop:∀(k:Nat) {ds:List SV} {aS:List AV},kn ρ ds aS->kn ρ (ds.drop k) (aS.drop k)
 | 0,_,_,h=>h
 | k+1,[],aS,h=>by rw[e7] at h;subst h;rw[c3,c3,e7]
 | k+1,d::ds,aS,h=>by
  rw[dS] at h;obtain⟨a,r,rfl,_,h2⟩:=h;exact kn.drop k h2
def kn.take:∀(k:Nat) {ds:List SV} {aS:List AV},kn ρ ds aS->kn ρ (ds.take k) (aS.take k)
 | 0,_,_,h=>by rw[cM,cM,e7]
 | k+1,[],aS,h=>by rw[e7] at h;subst h;rw[c5,c5,e7]
 | k+1,d::ds,aS,h=>by
  rw[dS] at h;obtain⟨a,r,rfl,h1,h2⟩:=h;rw[bH,bH,dS];exact⟨a,_,rfl,h1,kn.take k h2⟩
def da.get:∀{ds:List SV} {aS:List AV},da θ ρ ds aS->∀{i:Nat} {d:SV},ds[i]?=some d->∃a,aS[i]?=some a/\VS θ ρ d a
 | [],_,_,i,d,h=>by simp at h
 | d0::ds,aS,h,i,d,hd=>by
  rw[aM] at h;obtain⟨a,r,rfl,h1,h2⟩:=h
  cases i with
  | zero=>simp only[ax,qr] at hd;subst hd;exact⟨a,rfl,h1⟩
  | succ i=>simp only[ac] at hd ⊢;exact da.get h2 hd
def kn.get:∀{ds:List SV} {aS:List AV},kn ρ ds aS->∀{i:Nat} {d:SV},ds[i]?=some d->∃a,aS[i]?=some a/\GS ρ d a
 | [],_,_,i,d,h=>by simp at h
 | d0::ds,aS,h,i,d,hd=>by
  rw[dS] at h;obtain⟨a,r,rfl,h1,h2⟩:=h
  cases i with
  | zero=>simp only[ax,qr] at hd;subst hd;exact⟨a,rfl,h1⟩
  | succ i=>simp only[ac] at hd ⊢;exact kn.get h2 hd
def da.set:∀{ds:List SV} {aS:List AV},da θ ρ ds aS->∀(i:Nat) {d:SV} {a:AV},VS θ ρ d a->da θ ρ (ds.set i d) (aS.set i a)
 | [],_,h,i,d,a,_=>by rw[bj] at h;subst h;rw[set_nil,set_nil,bj]
 | d0::ds,aS,h,i,d,a,hv=>by
  rw[aM] at h;obtain⟨b,r,rfl,h1,h2⟩:=h
  cases i with
  | zero=>rw[co,co,aM];exact⟨a,r,rfl,hv,h2⟩
  | succ i=>rw[cl,cl,aM];exact⟨b,_,rfl,h1,da.set h2 i hv⟩
end
def nH(θ:Nat->Loc)(ρ:kG)(h:H)(L:Loc):SO->Prop
 | .cells cs=>∃aS,h.aU.get L.id=some (.cells aS L.bQ)/\da θ ρ cs aS/\h.dF.get L.bQ=some (L.x,L.y)
 | .map ks vs b=>∃l c,h.aU.get L.id=some (.map l c)/\Q3 l c ks b/\da θ ρ vs (l.map (·.2.1))
 | .gone=>True
 | .iter m bs c pos=>∃j9,VS θ ρ m (.map (some j9))/\h.aU.get L.id=some (.jl (some j9) c (pos.map λj=>bs.getD j 0) c)
 | .pI ks vs bs c pos=>∃j9 l,ρ j9=some (.map l c)/\Q3 l c ks (some (bs,c))/\kn ρ vs (l.map (·.2.1))/\h.aU.get L.id=some (.jl (some j9) c (pos.map λj=>bs.getD j 0) c)
 | .loop c ls p f=>L.id=c.id/\h.aU.get L.id=some (.loop ls p c.t c.n c.ps c.a c.b c.d)/\∀i,i<c.n->VS θ ρ (aP f i) (Nu c.t i)
 | .nd N=>L.id=N/\h.aU.get L.id=some (.nd false)
structure En where
 h:H
 pr:Nat->Prop
 pf:Nat->Prop
 lo:Nat
 w:Nat->AV
structure VJ (e:En):Prop where
 pr:∀j,e.pr j->j<e.h.next
 pf:∀j,e.pf j->j<e.h.next
 lo:∀j,¬e.pr j->e.lo<=j
 ln:e.lo<=e.h.next
structure FH (b:En) (n:Nat) (L:Loc):Prop where
 e:L.id=L.x\/L.id=L.y
 x:¬b.pr L.x/\L.x<n
 y:¬b.pr L.y/\L.y<n
 f:¬b.pf L.bQ/\L.bQ<n
structure yO (L M:Loc):Prop where
 xx:L.x≠M.x
 xy:L.x≠M.y
 yx:L.y≠M.x
 yy:L.y≠M.y
 f:L.bQ≠M.bQ
structure RS (θ:Nat->Loc) (ρ0 ρ:kG) (h0:En) (h:H) (S:List SO):Prop where
 ok:VJ h0
 nx:h0.h.next<=h.next
 ob:∀j,h0.pr j->h.aU.get j=h0.h.aU.get j
 fm:∀j,h0.pf j->h.dF.get j=h0.h.dF.get j
 lw:h0.lo<=h.low
 ln:h.low<=h.next
 obj:∀o so,S[o]?=some so->so≠.gone->FH h0 h.next (θ o)/\nH θ ρ h (θ o) so
 sep:∀o o' so so',o≠o'->S[o]?=some so->so≠.gone->S[o']?=some so'->so'≠.gone->yO (θ o) (θ o')
 row:∀id ob,ρ id=some ob->id<h.next/\h.aU.get id=some ob/\∀o so,S[o]?=some so->so≠.gone->id≠(θ o).x/\id≠(θ o).y
 mP:∀id ob,ρ id=some ob->ρ0 id=some ob\/¬h0.pr id
structure FR (θ:Nat->Loc) (ρ:kG) (f:Nat->SV) (af:Nat->AV) (n:Nat) (w:Nat->AV):Prop where
 v:∀i,VS θ ρ (f i) (if i<n then af i else w i)
 u:∀i,i<1000000->w i=mg
theorem RS.w{θ:Nat->Loc}{ρ0 ρ:kG}{h0:En}{h:H}{S:List SO}(hR:RS θ ρ0 ρ h0 h S)(w:Nat->AV):RS θ ρ0 ρ { h0 with w:=w } h S:=
 ⟨⟨hR.ok.pr,hR.ok.pf,hR.ok.lo,hR.ok.ln⟩,hR.nx,hR.ob,hR.fm,hR.lw,hR.ln,λo so h1 h2=>by
  obtain⟨⟨k1,k2,k3,k4⟩,k5⟩:=hR.obj o so h1 h2
  exact⟨⟨k1,k2,k3,k4⟩,k5⟩,hR.sep,hR.row,hR.mP⟩
end
end Go.Ev
