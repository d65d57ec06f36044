/- Lemmas of this claim, each with its conditions. -/
import Derived.Test.YtjiejanfnnieaaaGreatJ1
import Derived.Laws.Build
import Derived.OrdersIn
import Derived.Below
import Derived.Lib.Bytealg
import Derived.Deep.Slices
import Derived.Deep.Strs
import Derived.SizedLaws
set_option linter.all false
open Nat (beq blt ble lor)
open List (mem_map mem_range getD mapM map_nil set_nil)
open Array (ext')
open Int (ofNat)
open Array renaming getElem?_toList -> aa, getD_eq_getD_getElem? -> ay, toList_append -> be, toList_map -> bk, getElem?_eq_getElem -> bt, length_toList -> b7, getElem?_setIfInBounds -> cd, getElem?_eq_none -> cN, toList_filter -> d8, replicate -> fu
open List renaming getElem?_cons_succ -> ac, mem_cons_of_mem -> ad, mem_cons_self -> aj, getElem?_append_left -> am, getElem?_cons_zero -> ax, getElem?_append_right -> a9, getElem?_eq_none -> bb, flatten_cons -> bc, getElem?_map -> bd, range -> bg, getD_eq_getElem?_getD -> bi, any_cons -> bw, take_succ_cons -> bL, filter_cons -> b6, take_of_length_le -> b8, length_map -> b9, length_range -> ca, mem_append_right -> cb, mem_of_getElem? -> cc, map_cons -> ce, set_cons_succ -> cl, set_cons_zero -> co, mapM_cons -> cv, take_zero -> cH, drop_nil -> c2, singleton_append -> c3, take_nil -> c4, getElem?_append -> c6, length_eraseIdx -> du, mem_append_left -> d3, nil_append -> d4, zip_cons_cons -> d9, ext_getElem -> e5, flatten_nil -> e6, not_mem_nil -> fa, range'_succ -> fb, append_nil -> fd, foldl_cons -> fh, drop_zero -> fv
open Nat renaming le_refl -> ap, add_sub_cancel_left -> bv, zero_add -> b5, succ_mul -> ci, eq_zero_or_pos -> d5, zero_le -> d6, add_zero -> el, le_trans -> em, sub_self -> er, sub_zero -> ey, add_assoc -> fx
open Bool renaming false_eq_true -> ba, and_eq_true -> bh, or_eq_false_iff -> br, or_eq_true -> c5, or_assoc -> ef
open Option renaming getD_some -> d7
namespace Go.Ev
variable{P:Program}{σ:Sg}{h:H}{w:World}{ats:Array TypeId}{T:TypeId}{t:TypeId}{args:Array Value}{r:AV}
def NH(hr:HR σ h w){x:AV}{v:Value}(hl:Fx P h t x=some r)(h0:ats[0]?=some t)(h1:args[0]?=some v)(hv:V σ x v):
 ∃z,(Builtin.len_ ats T args).run P w=.ok z w/\V σ r z:=by
 have main:∀n:Nat,r=.int .i64 (ofNat n)->(Builtin.len_ ats T args).run P w=.ok (goInt n) w->∃z,(Builtin.len_ ats T args).run P w=.ok z w/\V σ r z:=by
  intro n hn hr';subst hn;exact⟨_,hr',.int _ _⟩
 unfold Fx at hl;split at hl
 all_goals try (rename_i hu)
 all_goals try (simp only[m6,qr] at hl)
 ·cases hv with
  | str hs=>exact main _ hl.symm (by simp only[Builtin.len_,h0,h1,ne,aP hu,pp,m9,ug hs])
 ·exact main _ hl.symm (by simp only[Builtin.len_,h0,h1,ne,aP hu,pp,m9])
 ·cases hv with
  | gV hl0=>subst hl0;exact main _ hl.symm (by simp only[Builtin.len_,h0,h1,ne,aP hu,pp,m9])
  | slice=>exact main _ hl.symm (by simp only[Builtin.len_,h0,h1,ne,aP hu,pp,m9])
 ·cases hv;exact main 0 hl.symm (by simp only[Builtin.len_,h0,h1,ne,aP hu,pp,m9];rfl)
 ·rename_i id
  cases hm:h.mapOf id with
  | none=>simp[hm] at hl
  | some q=>
   obtain⟨es,c⟩:=q;simp only[hm,m6,qr] at hl
   cases hv with
   | map hp=>
    obtain⟨_,es',g1,g2⟩:=hr.map hm hp;refine main _ hl.symm ?_;have:=g2.1;simp only[Builtin.len_,h0,h1,ne,aP hu,pp,cw g1 ge,m9];simp at this;rw[this]
 ·simp at hl
def NN(isMax:Bool){x y:AV}{v u:Value}(h:yP isMax x y=some r)(hv:V σ x v)(hu:V σ y u):
 ∃z,(if isMax then Builtin.max2 v u else Builtin.min2 v u).run P w=.ok z w/\V σ r z:=by
 unfold yP at h;split at h
 ·rename_i k a k' b;simp only[qr] at h;subst h;cases hv;cases hu;cases isMax
  ·refine⟨.int k (if b<a then b else a),by simp[Builtin.min2],?_⟩;simp only[au,ig];by_cases hab:a<=b
   ·rw[v6 i4];simp only[hab,decide_true,ak];exact .int _ _
   ·rw[ut i4];simp only[hab,decide_false,au];exact .int _ _
  ·refine⟨.int k (if b>a then b else a),by simp[Builtin.max2],?_⟩;rw[ig];by_cases hab:b<=a
   ·rw[v6 i4];simp only[hab,decide_true,ak];exact .int _ _
   ·rw[ut i4];simp only[hab,decide_false,ak,au];exact .int _ _
 ·rename_i a b;simp only[qr] at h;subst h
  cases hv with
  | @str _ s1 h1=>cases hu with
   | @str _ s2 h2=>
    have e1:=ra h1 h2
    have e2:gC a b=Op.bytesLess s1.toList s2.toList:=by rw[<-h1,<-h2,ByteArray.toList_eq,ByteArray.toList_eq];exact oK _ _
    cases isMax
    ·refine⟨.string (if (Op.bytesLess s1.toList s2.toList||(s1.toList==s2.toList))=true then s1 else s2),by simp[Builtin.min2,Op.stringOp,asBool],?_⟩;rw[e1,e2];cases (Op.bytesLess s1.toList s2.toList||(s1.toList==s2.toList))
     ·exact .str h2
     ·exact .str h1
    ·refine⟨.string (if (!Op.bytesLess s1.toList s2.toList)=true then s1 else s2),by simp[Builtin.max2,Op.stringOp,asBool],?_⟩;rw[e2];cases (Op.bytesLess s1.toList s2.toList)
     ·exact .str h1
     ·exact .str h2
 ·simp at h
def qu{P:Program}{σ:Sg}{w:World}(isMax:Bool):∀(l:List AV) (x r:AV) (v:Value) (us:List Value),nA isMax x l=some r->V σ x v->VL σ l us->
 ∃z,(us.foldlM (if isMax then Builtin.max2 else Builtin.min2) v).run P w=.ok z w/\V σ r z
 | [],x,r,v,us,h,hv,hu=>by have:=hu.pE;subst this;simp[nA] at h;subst h;exact⟨v,by simp,hv⟩
 | y::l,x,r,v,us,h,hv,hu=>by
  obtain⟨u,us',rfl,h1,h2⟩:=hu.dG;simp only[nA] at h
  cases hm:yP isMax x y with
  | none=>simp[hm] at h
  | some z=>
   simp only[hm,m7] at h;obtain⟨zv,hz,hV⟩:=NN (P:=P) (w:=w) isMax hm hv h1;obtain⟨q,hq,hQ⟩:=qu isMax l z r zv us' h hV h2;refine⟨q,?_,hQ⟩;rw[List.foldlM_cons]
   have e:(if isMax=true then Builtin.max2 else Builtin.min2) v u=(if isMax=true then Builtin.max2 v u else Builtin.min2 v u):=by cases isMax<;>rfl
   simp only[ne,e,hz,pp];exact hq
variable{h':H}
def KW(hr:HR σ h w){x y:AV}{v u:Value}(hl:ES P h t x y=some (r,h'))(h0:ats[0]?=some t)(h1:args[0]?=some v)(h2:args[1]?=some u)(hv:V σ x v)(hu:V σ y u):
 Yields P σ h h' w r (Builtin.copy_ ats T args):=by
 unfold ES at hl;split at hl
 ·rename_i e o dl des dc o' sl ses sc hund
  cases hs:cD P e with
  | none=>simp[hs] at hl
  | some s=>
   simp only[hs,m7] at hl
   have hlen:(Builtin.lenOf u).run P w=.ok sl w:=by cases hu with
    | gV h0=>subst h0;rfl
    | slice=>rfl
   cases hn0:beq (Nat.min sl dl) 0
   ·rw[hn0,au] at hl;have hn0:=hY hn0;obtain⟨hes,hl2⟩:=aI hl;clear hl;simp only[bh] at hes;have e1:=cU hes.1;have e2:=cU hes.2;subst e1;subst e2
    cases hsc:cE h o' (Nat.min sl dl) ses with
    | none=>simp[hsc] at hl2
    | some cs=>
     simp only[hsc,m7] at hl2
     cases o with
     | none=>simp at hl2
     | some q=>
      obtain⟨id,off⟩:=q;simp only at hl2
      cases hst:h.store id off cs with
      | none=>simp[hst] at hl2
      | some h9=>
       simp only[hst,m6,qr,m8] at hl2;obtain⟨rfl,rfl⟩:=hl2;obtain⟨vs,v1,v2,v3⟩:=mW (P:=P) hr hsc (.inl rfl) (Nat.min_le_left _ _) hu
       cases hv with
       | slice hp hl hroom hcap haddr=>
        have:Nat.min sl dl<=dl:=Nat.min_le_right _ _;have haddr:=haddr.resolve_right i4;subst haddr;obtain⟨w',s1,s2,s3⟩:=hr.rI (P:=P) hst hp v1;refine⟨σ,goInt (Nat.min sl dl:Nat),w',?_,.int _ _,s2,s3⟩;simp only[Builtin.copy_,h0,h1,h2,ne,aP hund,pp,hlen,bT hs,v3 w rfl,s1,m9]
   ·rw[hn0,ak] at hl;have hn0:=cU hn0;simp only[qr,m8] at hl;obtain⟨rfl,rfl⟩:=hl;refine⟨σ,goInt 0,w,?_,.int _ _,hr,.refl _ _ _⟩
    have hfc:(Builtin.firstCells s 0 u).run P w=.ok #[] w:=by
     cases hu with
     | gV=>simp[Builtin.firstCells]
     | slice=>simp[Builtin.firstCells,loadCells,loadCellsFrom]
    cases hv with
    | gV h00=>
     subst h00;simp only[Builtin.copy_,h0,h1,h2,ne,aP hund,pp,hlen,bT hs,hn0,hfc,m9];rfl
    | slice=>
     simp only[Builtin.copy_,h0,h1,h2,ne,aP hund,pp,hlen,bT hs,hn0,hfc,m9];simp[storeCells]
 ·simp at hl
def EL.eraseIdx{σ:Sg}{es:List (AV×AV×Nat)}{l:List MapEntry}(h:EL σ es l)(i:Nat):EL σ (es.eraseIdx i) (l.eraseIdx i):=by
 refine⟨by rw[du,du,h.1],?_⟩;intro j e m he hm;rw[List.getElem?_eraseIdx] at he hm;split at he
 ·rename_i hj;rw[ut hj] at hm;exact h.2 j e m he hm
 ·rename_i hj;rw[v6 hj] at hm;exact h.2 _ e m he hm
def sI{b:Nat}{o:Obj}(h:w.heap[b]?=some o):({ w with heap:=w.heap.setIfInBounds b o }:World)=w:=by
 have:w.heap.setIfInBounds b o=w.heap:=by
  apply Array.ext_getElem?;intro i;rw[cd];split
  ·rename_i e;subst e;rw[h,ut (BJ (by rw[h];simp))]
  ·rfl
 rw[this]
def EX(hr:HR σ h w){x k:AV}{v u:Value}(hl:tc P h t x k=some (r,h'))(h0:ats[0]?=some t)(h1:args[0]?=some v)(h2:args[1]?=some u)(hv:V σ x v)(hk:V σ k u):
 Yields P σ h h' w r (Builtin.delete_ ats T args):=by
 unfold tc at hl
 cases hm:dy P t with
 | none=>simp[hm] at hl
 | some q=>
  obtain⟨kt,et⟩:=q;simp only[hm,m7] at hl;obtain⟨hka,hl9⟩:=aI hl;clear hl;have hu:=kX hm;obtain⟨kd,hkd⟩:=CY hka;split at hl9
  ·cases hv;simp only[qr,m8] at hl9;obtain⟨rfl,rfl⟩:=hl9;refine⟨σ,_,w,?_,.fR (vs:=#[]) .nil,hr,.refl _ _ _⟩;simp only[Builtin.delete_,h0,h1,h2,ne,aP hu,pp,jH hka hk,m9]
  ·rename_i id
   cases hv with
   | @map _ p hp=>
    cases hmo:h.mapOf id with
    | none=>simp[hmo] at hl9
    | some q=>
     obtain⟨es,c⟩:=q;simp only[hmo,m7] at hl9;obtain⟨ho,es',g1,g2⟩:=hr.map hmo hp
     cases hf:gM P kt k es 0 with
     | none=>simp[hf] at hl9
     | some r0=>
      simp only[hf,m6,qr] at hl9;have hfind:=nz (w:=w) hkd hk hf g2
      cases r0 with
      | some i=>
       simp only[m8] at hl9;obtain⟨rfl,rfl⟩:=hl9;have hi:=tu es 0 i hf;obtain⟨m,hm1,hm2,hfo⟩:=yo g2 (e:=es[i]' i4) (jp i4)
       have hel:EL σ (es.eraseIdx i) (es'.eraseIdxIfInBounds i).toList:=by
        rw[Array.toList_eraseIdxIfInBounds];exact g2.eraseIdx i
       obtain⟨k1,k2⟩:=hr.jO ho rfl rfl hp (uJ (c:=c) (p:=p) hel);refine⟨σ,_,_,?_,.fR (vs:=#[]) .nil,k1,k2⟩;simp only[Builtin.delete_,h0,h1,h2,ne,aP hu,pp,cw g1 ge,jH hka hk,hfind,hfo,eh g1 ge,m9]
      | none=>
       simp only[m8] at hl9;obtain⟨rfl,rfl⟩:=hl9;refine⟨σ,_,w,?_,.fR (vs:=#[]) .nil,hr,.refl _ _ _⟩;simp only[Builtin.delete_,h0,h1,h2,ne,aP hu,pp,cw g1 ge,jH hka hk,hfind,found,eh g1 ge,m9,sI g1]
  ·simp at hl9
def HG(hr:HR σ h w){x:AV}{v:Value}(hl:xY P h t x=some (r,h'))(h0:ats[0]?=some t)(h1:args[0]?=some v)(hv:V σ x v):
 Yields P σ h h' w r (Builtin.clear_ ats T args):=by
 unfold xY at hl;split at hl
 ·rename_i hu;simp only[qr,m8] at hl;obtain⟨rfl,rfl⟩:=hl;cases hv;refine⟨σ,_,w,?_,.fR (vs:=#[]) .nil,hr,.refl _ _ _⟩;simp only[Builtin.clear_,h0,h1,ne,aP hu,pp,m9]
 ·rename_i e id off n es cap hu
  cases hs:cD P e with
  | none=>simp[hs] at hl
  | some s=>
   cases hz:dm P e with
   | none=>simp[hs,hz] at hl
   | some z=>
    simp only[hs,hz,m7] at hl
    cases hv with
    | @slice _ _ _ _ _ a p c hp hlen hroom hcap haddr=>
     cases hn0:beq n 0
     ·rw[hn0,au] at hl;have hn0:=hY hn0;obtain⟨hc,hl2⟩:=aI hl;clear hl;simp only[bh] at hc;have e1:=cU hc.1;subst e1;have e2:=cU hc.2
      cases hst:h.store id off (rep z.cells n) with
      | none=>simp[hst] at hl2
      | some h9=>
       simp only[hst,m6,qr,m8] at hl2;obtain⟨rfl,rfl⟩:=hl2;have haddr:=haddr.resolve_right i4;subst haddr;obtain⟨zv,hzr,hzV,_⟩:=iy (w:=w) (σ:=σ) hz
       have hzs:zv.cells.size=s:=by have:=hzV.cells.1;simp at this;omega
       have hv1:VL σ (rep z.cells n) (Builtin.zeroCells zv.cells n).toList:=by
        by_cases hs0:s=0
        ·have hr0:(rep z.cells n).length=0:=by rw[fW,e2,hs0,Nat.mul_zero]
         refine⟨by simp[fW,Builtin.zeroCells,hzs,e2],?_⟩;intro i a' v' ha';rw[bb i4] at ha';cases ha'
        ·have:=Dk hzV.cells i4 n;rw[e2] at this;simpa only[Builtin.zeroCells,hzs] using this
       obtain⟨w',s1,s2,s3⟩:=hr.rI (P:=P) hst hp hv1;refine⟨σ,_,w',?_,.fR (vs:=#[]) .nil,s2,s3⟩
       cases n with
       | zero=>exact un rfl hn0
       | succ n=>
        simp only[Builtin.clear_,h0,h1,ne,aP hu,pp,hzr,s1,m9]
     ·rw[hn0,ak] at hl;have hn0:=cU hn0;subst hn0;simp only[qr,m8] at hl;obtain⟨rfl,rfl⟩:=hl;refine⟨σ,_,w,?_,.fR (vs:=#[]) .nil,hr,.refl _ _ _⟩;simp only[Builtin.clear_,h0,h1,ne,aP hu,pp,m9]
 ·simp at hl
def Is(hr:HR σ h w){x:AV}{v:Value}(hl:vt P h t x=some (r,h'))(hv:V σ x v):Yields P σ h h' w r (Instr.range t v):=by
 have fin:∀(o:AO) (ob:Obj),(∀cs f,o≠.cells cs f)->OR (up σ h.next ⟨w.heap.size,0,0⟩) o ⟨w.heap.size,0,0⟩ (some ob)->(Instr.range t v).run P w=.ok (.pointer (some ⟨w.heap.size,0,none⟩)) { w with heap:=w.heap.push ob }->
  (r,h')=(.ptr (some (h.next,0)),{ h with aW:=h.aW.put h.next (some o),next:=h.next+1 })->Yields P σ h h' w r (Instr.range t v):=by
  intro o ob hnc hor hrun he;simp only[m8] at he;obtain⟨rfl,rfl⟩:=he;obtain⟨k1,k2⟩:=hr.new (r:=0) (o:=o) (ob:=ob) (w':={ w with heap:=w.heap.push ob }) (λcs f hf=>un hf (hnc cs f)) hor rfl rfl rfl rfl
  have he:({ h.lay h.next o with next:=h.next+1 }:H)={ h with aW:=h.aW.put h.next (some o),next:=h.next+1 }:=by
   unfold H.lay;split
   ·rename_i cs f;exact un rfl (hnc cs f)
   ·rfl
  rw[he] at k1 k2;exact⟨_,_,_,hrun,.ptr (p:=⟨w.heap.size,0,0⟩) (ep _ _ _),k1,k2⟩
 unfold vt at hl;split at hl
 ·rename_i s hu
  cases hv with
  | @str _ bs hs=>
   refine fin (.Kv s 0) (.stringIter bs 0) ge ⟨bs,rfl,hs,rfl⟩ ?_ (by simpa [H.newObj] using hl.symm);simp only[Instr.range,ne,aP hu,pp,m9,run_newObj]
 ·rename_i hu;cases hv;refine fin (.iU none 0 [] 0) (.mapIter none 0 #[] 0) ge ⟨none,rfl,rfl,rfl⟩ ?_ (by simpa [H.newObj] using hl.symm);simp only[Instr.range,ne,aP hu,pp,m9,run_newObj]
 ·rename_i k e m hu
  cases hv with
  | @map _ p hp=>
   cases hm:h.mapOf m with
   | none=>simp[hm] at hl
   | some q=>
    obtain⟨es,c⟩:=q;obtain⟨_,es',g1,_⟩:=hr.map hm hp;refine fin (.iU (some m) c [] c) (.mapIter (some p.b) c #[] c) ge ⟨some p.b,rfl,rfl,p,oY (hr.fresh _ (ap _)) _ _ hp,rfl⟩ ?_ (by simpa [H.newObj,hm] using hl.symm);simp only[Instr.range,ne,aP hu,pp,cw g1 ge,m9,run_newObj]
 ·simp at hl
def ze(b:Nat):∀l:List Nat,seenIn b l=l.contains b
 | []=>rfl
 | x::l=>by
  simp only[seenIn,List.contains_cons,ze b l]
  congr 1
  cases h:beq x b
  ·have:=hY h;symm;simp;exact λe=>this e.symm
  ·have:=cU h;subst this;simp
def EL.filter{σ:Sg}{f:AV×AV×Nat->Bool}{g:MapEntry->Bool}(hfg:∀e m,ER σ e m->f e=g m):∀(es:List (AV×AV×Nat)) (l:List MapEntry),EL σ es l->EL σ (es.filter f) (l.filter g)
 | [],l,h=>by have:=h.nil;subst this;exact h
 | e::es,l,h=>by
  obtain⟨m,l',rfl,he,hl⟩:=h.cons;have ih:=EL.filter hfg es l' hl;simp only[b6,hfg e m he];cases g m
  ·exact ih
  ·exact EL.append (EL.one he) ih
def EL.all{σ:Sg}{f:AV×AV×Nat->Bool}{g:MapEntry->Bool}(hfg:∀e m,ER σ e m->f e=g m):∀(es:List (AV×AV×Nat)) (l:List MapEntry),EL σ es l->es.all f=l.all g
 | [],l,h=>by have:=h.nil;subst this;rfl
 | e::es,l,h=>by
  obtain⟨m,l',rfl,he,hl⟩:=h.cons;simp only[List.all_cons,hfg e m he,EL.all hfg es l' hl]
def EL.isEmpty{σ:Sg}{es:List (AV×AV×Nat)}{l:List MapEntry}(h:EL σ es l):es.isEmpty=l.isEmpty:=by
 have:=h.1;cases es<;>cases l<;>simp_all
variable{n:Nat}
def Sd(hn:0<n):∃k w',(choose (.mapNext n)).run P w=.ok k w'/\k<n/\w'.heap=w.heap/\w'.os=w.os/\w'.tape=w.tape/\w'.output=w.output:=by
 rw[run_choose];by_cases h:n<=1
 ·have:(Question.mapNext n).forced=true:=by simp[Question.forced,h]
  rw[ut this];exact⟨0,w,rfl,hn,rfl,rfl,rfl,rfl⟩
 ·have:¬(Question.mapNext n).forced=true:=by simp[Question.forced];omega
  rw[v6 this];exact⟨_,_,rfl,Nat.mod_lt _ hn,rfl,rfl,rfl,rfl⟩
def Lr(hr:HR σ h w){x:AV}{v:Value}{isS:Bool}{outs:List (AV×H)}(hl:yS h x isS=some outs)(hv:V σ x v):
 ∃r h',(r,h')∈outs/\Yields P σ h h' w r (Instr.next v isS T):=by
 unfold yS at hl;split at hl
 ·rename_i id
  cases hv with
  | @ptr _ _ p hp=>
   split at hl
   ·rename_i since seen st ho;obtain⟨q,hq,m',g1,g0,g2⟩:=hr.obj id _ ho;rw[hp] at hq;cases hq;simp only at g2;subst g2;simp only[one,qr] at hl;subst hl;refine⟨_,_,rx rfl,σ,.tuple #[.bool false],w,?_,.fR (.cons (.bool _) .nil),hr,.refl _ _ _⟩;rw[g0];simp only[Instr.next,b5,ne,cw g1 ge,pp,m9]
   ·rename_i m since seen last ho;obtain⟨q,hq,m',g1,g0,g2⟩:=hr.obj id _ ho;rw[hp] at hq;cases hq;simp only at g2;obtain⟨pm,hpm,rfl⟩:=g2
    cases hm:h.mapOf m with
    | none=>simp[hm] at hl
    | some q=>
     obtain⟨es,clock⟩:=q;simp only[hm,m7] at hl;obtain⟨hom,es',k1,k2⟩:=hr.map hm hpm;cases hgone:(!seen.isEmpty&&(!es.isEmpty&&es.all (λe=>ble last e.2.2)))
     ·rw[hgone,au] at hl;simp only[qr] at hl;subst hl
      have hgone':(!seen.toArray.isEmpty&&!es'.isEmpty&&es'.all (λe=>decide (e.born≥last)))=false:=by
       have e1:seen.toArray.isEmpty=seen.isEmpty:=by simp
       have e2:es'.isEmpty=es.isEmpty:=by rw[k2.isEmpty];simp
       have e3:es'.all (λe=>decide (e.born≥last))=es.all (λe=>ble last e.2.2):=by
        rw[<-Array.all_toList,k2.all (g:=λe=>decide (e.born≥last))];intro e mm he;rw[he.2.2];cases hb:ble last mm.born
        ·have:=xk hb;symm;simp;omega
        ·have:=jg hb;symm;simp;omega
       rw[e1,e2,e3,Bool.and_assoc];exact hgone
      have hleft:EL σ (es.filter λe=>!(seenIn e.2.2 seen)) (es'.toList.filter λe=>!(seen.toArray.contains e.born)):=
       EL.filter (λe mm he=>by rw[ze,he.2.2];simp) _ _ k2
      have hlt:∀(e:AV×AV×Nat) (mm:MapEntry),ER σ e mm->blt e.2.2 since=decide (mm.born<since):=by
       intro e mm he;rw[he.2.2];cases hb:blt mm.born since
       ·have:=Jz hb;symm;simp;omega
       ·have:=fK hb;symm;simp;omega
      have hold:EL σ ((es.filter λe=>!(seenIn e.2.2 seen)).filter λe=>blt e.2.2 since) ((es'.toList.filter λe=>!(seen.toArray.contains e.born)).filter λe=>decide (e.born<since)):=
       EL.filter hlt _ _ hleft
      have hnew:EL σ ((es.filter λe=>!(seenIn e.2.2 seen)).filter λe=>!(blt e.2.2 since)) ((es'.toList.filter λe=>!(seen.toArray.contains e.born)).filter λe=>decide (e.born≥since)):=
       EL.filter (λe mm he=>by rw[hlt e mm he];by_cases hx:mm.born<since<;>simp[hx]<;>omega) _ _ hleft
      generalize ((es.filter λe=>!(seenIn e.2.2 seen)).filter λe=>blt e.2.2 since)=Oa at hold ⊢;generalize ((es.filter λe=>!(seenIn e.2.2 seen)).filter λe=>!(blt e.2.2 since))=Na at hnew ⊢
      have hcand:((if ((es'.filter λe=>!(seen.toArray.contains e.born)).filter λe=>decide (e.born<since)).isEmpty then #[none] else #[])++
       (((es'.filter λe=>!(seen.toArray.contains e.born)).filter λe=>decide (e.born<since))++((es'.filter λe=>!(seen.toArray.contains e.born)).filter λe=>decide (e.born≥since))).map some:Array (Option MapEntry)).toList=
       (if ((es'.toList.filter λe=>!(seen.toArray.contains e.born)).filter λe=>decide (e.born<since)).isEmpty then [none] else [])++
       (((es'.toList.filter λe=>!(seen.toArray.contains e.born)).filter λe=>decide (e.born<since))++((es'.toList.filter λe=>!(seen.toArray.contains e.born)).filter λe=>decide (e.born≥since))).map some:=by
       have e1:((es'.filter λe=>!(seen.toArray.contains e.born)).filter λe=>decide (e.born<since)).toList=(es'.toList.filter λe=>!(seen.toArray.contains e.born)).filter λe=>decide (e.born<since):=by
        simp only[d8]
       have e2:((es'.filter λe=>!(seen.toArray.contains e.born)).filter λe=>decide (e.born≥since)).toList=(es'.toList.filter λe=>!(seen.toArray.contains e.born)).filter λe=>decide (e.born≥since):=by
        simp only[d8]
       have e3:((es'.filter λe=>!(seen.toArray.contains e.born)).filter λe=>decide (e.born<since)).isEmpty=((es'.toList.filter λe=>!(seen.toArray.contains e.born)).filter λe=>decide (e.born<since)).isEmpty:=by
        rw[<-e1,Array.isEmpty_toList]
       rw[be,bk,be,e1,e2,e3];split<;>rfl
      revert hcand
      generalize hC:((if ((es'.filter λe=>!(seen.toArray.contains e.born)).filter λe=>decide (e.born<since)).isEmpty then #[none] else #[])++
       (((es'.filter λe=>!(seen.toArray.contains e.born)).filter λe=>decide (e.born<since))++((es'.filter λe=>!(seen.toArray.contains e.born)).filter λe=>decide (e.born≥since))).map some:Array (Option MapEntry))=C
      intro hcand;generalize ((es'.toList.filter λe=>!(seen.toArray.contains e.born)).filter λe=>decide (e.born<since))=O' at hold hcand;generalize ((es'.toList.filter λe=>!(seen.toArray.contains e.born)).filter λe=>decide (e.born≥since))=N' at hnew hcand;have hON:=hold.append hnew
      have hpos:0<C.size:=by
       rw[<-b7,hcand];cases O'<;>simp
      obtain⟨k,w1,hk,hkn,hw1,e1,e2,e3⟩:=Sd (P:=P) (w:=w) hpos
      have hrun:∀c,C[k]?=some c->(Instr.next (.pointer (some ⟨p.b,p.d+0,none⟩)) false T).run P w=(match c with
       | some e=>((setObj p.b (.mapIter (some pm.b) since (seen.toArray.push e.born) clock)).run P w1).andThen λ_ w2=>.ok (.tuple #[.bool true,e.key,e.val]) w2
       | none=>.ok (.tuple #[.bool false]) w1):=by
       intro c hc;rw[g0];simp only[Instr.next,b5,ne,cw g1 ge,pp,cw k1 ge,hgone',ba,if_false];simp only[hC,hk,pp,hc]
       cases c with
       | none=>rfl
       | some e=>simp only[ne,m9]
      have hCk:C[k]?=C.toList[k]?:=by simp
      rw[hcand] at hCk
      have hgo:∀(j:Nat),(∀mm,(O'++N')[j]?=some mm->C[k]?=some (some mm))->j<(O'++N').length->
       (∀e,(Oa++Na)[j]?=some e->((.cx [.bool true,e.1,e.2.1],h.set id (.iU (some m) since (seen++[e.2.2]) clock)):AV×H)∈qj h id m since seen clock Oa Na)->
       ∃r h',(r,h')∈qj h id m since seen clock Oa Na/\Yields P σ h h' w r (Instr.next (.pointer (some ⟨p.b,p.d+0,none⟩)) false T):=by
       intro j h1 hj h2
       have hja:j<(Oa++Na).length:=by have:=hON.1;omega
       have he:=jp hja;obtain⟨mm,hm1,hm2⟩:=hON.get he;have hr1:=hr.congr hw1
       have ho1:w1.heap[p.b]?=some (.mapIter (some pm.b) since seen.toArray last):=by rw[hw1];exact g1
       obtain⟨s1,s2⟩:=hr1.jO (o':=.iU (some m) since (seen++[(Oa++Na)[j].2.2]) clock) (ob:=.mapIter (some pm.b) since (seen.toArray.push mm.born) clock) ho rfl rfl hp
        ⟨some pm.b,by rw[hm2.2.2];simp,g0,pm,hpm,rfl⟩
       refine⟨_,_,h2 _ he,σ,.tuple #[.bool true,mm.key,mm.val],_,?_,.fR (.cons (.bool _) (.cons hm2.1 (.cons hm2.2.1 .nil))),s1,(Ext.of_eq hw1 e1 e2 e3).trans s2⟩;rw[hrun _ (h1 mm hm1)];simp only[eh ho1 ge,pp]
      cases hO:O'.isEmpty
      ·have hOa:Oa.isEmpty=false:=by rw[hold.isEmpty];exact hO
       rw[hO] at hCk;simp only[ba,if_false,d4,bd] at hCk
       have hkl:k<(O'++N').length:=by
        have:=hkn;rw[<-b7,hcand,hO] at this;simpa using this
       refine hgo k (λmm hmm=>by rw[hCk,hmm];rfl) hkl ?_;intro e he;simp only[qj,hOa,au,d4];exact mem_map.2 ⟨e,cc he,rfl⟩
      ·have hOa:Oa.isEmpty=true:=by rw[hold.isEmpty];exact hO
       rw[hO] at hCk;simp only[if_true] at hCk
       cases k with
       | zero=>
        simp only[c3,ax] at hCk;refine⟨.cx [.bool false],h,?_,σ,.tuple #[.bool false],w1,?_,.fR (.cons (.bool _) .nil),hr.congr hw1,.of_eq hw1 e1 e2 e3⟩
        ·simp[qj,hOa]
        ·rw[hrun _ hCk]
       | succ k=>
        simp only[c3,ac,bd] at hCk
        have hkl:k<(O'++N').length:=by
         have:=hkn;rw[<-b7,hcand,hO] at this;simp at this;simp;omega
        refine hgo k (λmm hmm=>by rw[hCk,hmm];rfl) hkl ?_;intro e he;simp only[qj];exact cb _ (mem_map.2 ⟨e,cc he,rfl⟩)
     ·simp[hgone] at hl
   ·simp at hl
 ·simp at hl
variable{i:Nat}
def PJ{b:Nat}{es:List (AV×AV×Nat)}{l:Array MapEntry}(h:EL σ es l.toList)(hb:j9 b es 0=some i):∃e m,es[i]?=some e/\l.find? (λe=>e.born==b)=some m/\ER σ e m:=by
 obtain⟨h1,h2,⟨x,h3,h4⟩,h5⟩:=su es 0 i hb;obtain⟨m,hm1,hm2⟩:=h.get (i:=i) (by simpa using h3);refine⟨x,m,by simpa using h3,?_,hm2⟩
 have hi:i<l.size:=by have:=km hm1;simpa using this
 have hm1':l[i]=m:=by
  have:l[i]?=some m:=by simpa using hm1
  rw[bt hi] at this;simpa using this
 rw[Array.find?_eq_some_iff_getElem];refine⟨by have:=hm2.2.2;simp;omega,i,hi,hm1',?_⟩;intro j hj
 have hjl:j<es.length:=by have:=h.1;simp at this;omega
 have:=h5 j i4 _ (jp hjl);have hr:=(h.2 j _ (l[j]' i4) (jp hjl) ge).2.2;simp;omega
def HM(hr:HR σ h w){x:AV}{v:Value}(hl:uR h x=some r)(hv:V σ x v):∃z,(Instr.entry v).run P w=.ok z w/\V σ r z:=by
 unfold uR at hl;split at hl
 ·rename_i id
  cases hv with
  | @ptr _ _ p hp=>
   split at hl
   ·rename_i m since seen st ho;obtain⟨q,hq,m',g1,g0,g2⟩:=hr.obj id _ ho;rw[hp] at hq;cases hq;simp only at g2;obtain⟨pm,hpm,rfl⟩:=g2;split at hl
    ·rename_i stamp hst
     cases hm:h.mapOf m with
     | none=>simp[hm] at hl
     | some q=>
      obtain⟨es,c⟩:=q;simp only[hm,m7] at hl;obtain⟨_,es',k1,k2⟩:=hr.map hm hpm;obtain⟨hc,hl2⟩:=aI hl;have hc:=cU hc;subst hc
      cases hb:j9 stamp es 0 with
      | none=>simp[hb] at hl2
      | some i=>
       simp only[hb,m7] at hl2;obtain⟨e,mm,f1,f2,f3⟩:=PJ k2 hb;simp only[f1,m6,qr] at hl2;subst hl2;refine⟨.tuple #[mm.key,mm.val],?_,.fR (.cons f3.1 (.cons f3.2.1 .nil))⟩
       have hback:seen.toArray.back?=some stamp:=by simpa using hst
       rw[g0];simp only[Instr.entry,b5,ne,cw g1 ge,pp,hback,cw k1 ge,bne_self_eq_false,ba,if_false,f2,m9]
    ·simp at hl
   ·simp at hl
 ·simp at hl
def vL{name:String}{f:FuncId}(h:jd P t name=some f):∃(i:TypeInfo) (m:Method) (d:TypeDesc),P.info? t=some i/\i.methods.find? (·.name==name)=some m/\m.path.isEmpty=true/\m.func=some (f,false)/\P.underlying t=some d/\(∀e,d≠.pointer e):=by
 unfold jd at h
 cases hi:P.info? t with
 | none=>simp[hi] at h
 | some i=>
  simp only[hi,m7] at h
  cases hm:i.methods.find? (·.name==name) with
  | none=>simp[hm] at h
  | some m=>
   simp only[hm,m7] at h;split at h
   ·rename_i g hp hf;split at h
    all_goals first
     | (rename_i hu;simp only[qr] at h;subst h;exact⟨i,m,_,rfl,hm,hp,hf,hu,by simp⟩)
     | simp at h
   ·simp at h
variable{ρ:Operand->Value}{o:Oper}
def AL{X:Operand}{x:AV}(h:oM P x=some r)(hv:V σ x (ρ X))(ho:o.op=.nilCheck X):
 ∃z,(execOp ρ o).run P w=.ok (.value z) w/\V σ r z:=by
 unfold oM at h;split at h
 ·simp only[qr] at h;subst h;generalize hg:ρ X=v at hv
  cases hv with
  | ptr hp=>exact⟨_,by simp only[execOp,ho,hg,m9],.ptr hp⟩
 ·simp only[qr] at h;subst h;generalize hg:ρ X=v at hv;have hv':=hv
  cases hv with
  | fn hf h1 h2 h3 h4=>exact⟨_,by simp only[execOp,ho,hg,m9],hv'⟩
 ·rename_i name t a cap
  cases hm:jd P t name with
  | none=>simp[hm] at h
  | some f=>
   simp only[hm,m6,qr] at h;subst h;obtain⟨i,m,d,hi,hf,hp,hfu,hu,hd⟩:=vL hm;generalize hg:ρ X=v at hv;have hv':=hv
   cases hv with
   | @fn _ _ _ fs' cs' hfy h1 h2 h3 h4=>
    have hsz:fs'.size=1:=by simpa using h1.symm
    have h00:fs'[0]?=some (fs'[0]' i4):=bt _;have hV0:=h2 0 _ _ rfl h00;generalize fs'[0]' i4=v0 at hV0 h00
    cases hV0 with
    | @iface _ _ vv hva=>
     refine⟨_,?_,hv'⟩;simp only[execOp,ho,hg,h00,ne,run_program,pp]
     have hna:(nilAhead (P.types.size+Made.depth) t vv name).run P w=.ok (some false) w:=by
      rw[show P.types.size+Made.depth=(P.types.size+99)+1 from rfl];generalize P.types.size+99=kk
      have hpath:m.path.toList=[]:=by
       have:=hp;simpa using this
      simp only[nilAhead,ne,c7 hi,pp,hf,hpath,followBlind,m9,hfu,aP hu]
      cases d<;>first
       | rfl
       | exact un rfl (hd _)
     simp only[hna,pp];rfl
 ·simp only[qr] at h;subst h;generalize hg:ρ X=v at hv;have hv':=hv
  cases hv with
  | gV hl=>exact⟨_,by simp only[execOp,ho,hg,m9],hv'⟩
  | slice=>exact⟨_,by simp only[execOp,ho,hg,m9],hv'⟩
 ·simp at h
def U8(σ:Sg)(r:Option AV)(x:Next):Prop:=match r with
 | some a=>∃v,x=.value v/\V σ a v
 | none=>x=.skip
def wB(P:Program)(σ:Sg)(h h':H)(w:World)(r:Option AV)(s:Sem Next):Prop:=
 ∃σ' x w',s.run P w=.ok x w'/\U8 σ' r x/\HR σ' h' w'/\Ext σ σ' h h' w w'
def wB.pure{P:Program}{σ:Sg}{h:H}{w:World}(hr:HR σ h w){a:AV}{s:Sem Value}(hs:∃z,s.run P w=.ok z w/\V σ a z):wB P σ h h w (some a) (do Pure.pure (Next.value (<-s))):=by
 obtain⟨z,h1,h2⟩:=hs;exact⟨σ,.value z,w,by simp only[ne,h1,pp,m9],⟨z,rfl,h2⟩,hr,.refl _ _ _⟩
def wB.yield{P:Program}{σ:Sg}{h h':H}{w:World}{a:AV}{s:Sem Value}(hs:Yields P σ h h' w a s):wB P σ h h' w (some a) (do Pure.pure (Next.value (<-s))):=by
 obtain⟨σ',z,w',h1,h2,h3,h4⟩:=hs;exact⟨σ',.value z,w',by simp only[ne,h1,pp,m9],⟨z,rfl,h2⟩,h3,h4⟩
def wB.unit{s:Sem Unit}(hs:∃w',s.run P w=.ok () w'/\HR σ h' w'/\Ext σ σ h h' w w'):wB P σ h h' w none (do s;Pure.pure Next.skip):=by
 obtain⟨w',h1,h2,h3⟩:=hs;exact⟨σ,.skip,w',by simp only[ne,h1,pp,m9],rfl,h2,h3⟩
variable{α:Type}
def Ll{β:Type}{r:Option α}{f:α->β}{outs:List β}(h:r.map (λx=>[f x])=some outs):∃a,r=some a/\outs=[f a]:=by
 cases r with
 | none=>simp at h
 | some a=>simp at h;exact⟨a,rfl,h.symm⟩
def mB{β:Type}{r:Option α}{f:α->Option β}{y:β}(h:r.bind f=some y):∃a,r=some a/\f a=some y:=by
 cases r with
 | none=>simp at h
 | some a=>exact⟨a,rfl,h⟩
def az{β:Type}{r:Option α}{f:α->β}{y:β}(h:r.map f=some y):∃a,r=some a/\f a=y:=by
 cases r with
 | none=>simp at h
 | some a=>simp at h;exact⟨a,rfl,h⟩
variable{id:Nat}
def Ht{t:Tr AV}(hρ:∀x a,ev t x=some a->V σ a (ρ x))(hr:HR σ h w){a:AV}{ob:AO}(hl:pc P t o.op id=some (a,ob))
 (hid:σ id=none) (hlt:id<h.next) (hlow:h.low<=id) (hf:∀j cs,h.aW.get j≠some (.cells cs id)):
 ∃σ' v w',(execOp ρ o).run P w=.ok (.value v) w'/\V σ' a v/\HR σ' (h.lay id ob) w'/\Ext σ σ' { h with next:=id } (h.lay id ob) w w'/\(∃q,w.heap.size<=q.b/\σ'=up σ id q):=by
 have row:∀(aS:List AV) (c:Array Value) (e:TypeId) (v:Value),ob=.cells aS id->VL σ aS c.toList->(execOp ρ o).run P w=.ok (.value v) { w with heap:=w.heap.push (.cells c e (0,0)) }->
  (∀σ':Sg,σ' id=some ⟨w.heap.size,0,c.size⟩->V σ' a v)->∃σ' v w',(execOp ρ o).run P w=.ok (.value v) w'/\V σ' a v/\HR σ' (h.lay id ob) w'/\Ext σ σ' { h with next:=id } (h.lay id ob) w w'/\(∃q,w.heap.size<=q.b/\σ'=up σ id q):=by
  intro aS c e v e1 hvl hrun hV;subst e1
  obtain⟨k1,k2⟩:=hr.lay (r:=c.size) (o:=.cells aS id) (ob:=.cells c e (0,0)) (w':={ w with heap:=w.heap.push (.cells c e (0,0)) }) hid hlt hlow hf (λcs f hh=>by cases hh;rfl)
   (Hr (hvl.mono (oY hid)) (b8 (ap _))) rfl rfl rfl rfl
  exact⟨_,v,_,hrun,hV _ (ep _ _ _),k1,k2,_,ap _,rfl⟩
 have mp:ob=.map [] 0->a=.map (some id)->(execOp ρ o).run P w=.ok (.value (.map (some w.heap.size))) { w with heap:=w.heap.push (.map #[] 0) }->
  ∃σ' v w',(execOp ρ o).run P w=.ok (.value v) w'/\V σ' a v/\HR σ' (h.lay id ob) w'/\Ext σ σ' { h with next:=id } (h.lay id ob) w w'/\(∃q,w.heap.size<=q.b/\σ'=up σ id q):=by
  intro e1 e2 hrun;subst e1;subst e2
  obtain⟨k1,k2⟩:=hr.lay (r:=0) (o:=.map [] 0) (ob:=.map #[] 0) (w':={ w with heap:=w.heap.push (.map #[] 0) }) hid hlt hlow hf (λcs f hh=>by cases hh)
   ⟨#[],rfl,rfl,λi e m he _=>by simp at he⟩ rfl rfl rfl rfl
  exact⟨_,_,_,hrun,.map (p:=⟨w.heap.size,0,0⟩) (ep _ _ _),k1,k2,_,ap _,rfl⟩
 unfold pc at hl;split at hl
 ·rename_i e ho;obtain⟨z,hz,he⟩:=az hl;simp only[m8] at he;obtain⟨rfl,rfl⟩:=he;obtain⟨zv,hzr,hzV,_⟩:=iy (w:=w) (σ:=σ) hz;refine row _ zv.cells e _ rfl hzV.cells ?_ (λσ' hs=>.ptr (p:=⟨w.heap.size,0,zv.cells.size⟩) hs);simp only[execOp,ho,Instr.alloc,ne,hzr,pp,newVar,newRow,run_newObj,m9]
 ·rename_i e x ho;obtain⟨y,hy,he⟩:=az hl;simp only[m8] at he;obtain⟨rfl,rfl⟩:=he;have hV:=hρ _ _ hy;refine row _ (ρ x).cells e _ rfl hV.cells ?_ (λσ' hs=>.ptr (p:=⟨w.heap.size,0,(ρ x).cells.size⟩) hs);simp only[execOp,ho,Instr.box,ne,pp,newVar,newRow,run_newObj,m9]
 ·rename_i tt n ps ho;obtain⟨qs,hq,hl⟩:=mB hl;obtain⟨⟨s,cs⟩,hb,he⟩:=az hl;simp only[m8] at he;obtain⟨rfl,rfl⟩:=he;have hpr:=vn hρ ps.toList qs hq
  have hpr':PL σ qs (ps.map λ(i,x)=>(i,ρ x)).toList:=by simpa using hpr
  obtain⟨c,e,g1,g2,g3⟩:=wH (w:=w) hb hpr';refine row _ c e _ rfl g2 ?_ (λσ' hs=>.slice (p:=⟨w.heap.size,0,c.size⟩) hs (ap _) (by have:=g2.1;simp at this;simp only;omega) (λx hx=>by simpa using hx.symm) (.inl rfl));simp only[execOp,ho,ne,g1,pp,m9]
 ·rename_i tt r ho;split at hl
  ·simp only[qr,m8] at hl;obtain⟨rfl,rfl⟩:=hl;refine mp rfl rfl ?_;simp only[execOp,ho,Option.map_none,Instr.makeMap,ne,m9,pp,run_newObj]
  ·rename_i x;split at hl
   ·rename_i k n q hx hm;simp only[qr,m8] at hl;obtain⟨rfl,rfl⟩:=hl;obtain⟨kt,et⟩:=q;refine mp rfl rfl ?_;have hV:=hρ _ _ hx;generalize hg:ρ x=v at hV;cases hV;simp only[execOp,ho,m6,hg,Instr.makeMap,ne,aP (kX hm),asInt,asIntOf,m9,pp,run_newObj]
   ·simp at hl
 ·rename_i tt l c ho;obtain⟨l',hl',hl⟩:=mB hl;obtain⟨c',hc',hl⟩:=mB hl;obtain⟨⟨n,s,m,cs⟩,hb,he⟩:=az hl;simp only[m8] at he;obtain⟨rfl,rfl⟩:=he;obtain⟨arr,e,g1,g2,g3,g4⟩:=yM (w:=w) hb (hρ _ _ hl') (hρ _ _ hc');refine row _ arr e _ rfl g2 ?_ (λσ' hs=>.slice (p:=⟨w.heap.size,0,arr.size⟩) hs g3 (by have:=g2.1;simp at this;simp only;omega) (λx hx=>by simpa using hx.symm) (.inl rfl));simp only[execOp,ho,ne,g1,pp,m9]
 ·simp at hl
def Cy(hr:HR σ h w){b:Builtin}{cn:Array Bool}{aS:List AV}(hl:mD P h b ats.toList aS=some (r,h'))
 (hv:VL σ aS args.toList):wB P σ h h' w (some r) (builtin b ats T cn args):=by
 have at0:∀{t:TypeId} {l:List TypeId},ats.toList=t::l->ats[0]?=some t:=λe=>by rw[<-aa,e];rfl
 have at1:∀{t s:TypeId} {l:List TypeId},ats.toList=t::s::l->ats[1]?=some s:=λe=>by rw[<-aa,e];rfl
 have ar0:∀{v:Value} {l:List Value},args.toList=v::l->args[0]?=some v:=λe=>by rw[<-aa,e];rfl
 have ar1:∀{v u:Value} {l:List Value},args.toList=v::u::l->args[1]?=some u:=λe=>by rw[<-aa,e];rfl
 unfold mD at hl;split at hl
 ·rename_i st xt _ x y hats;obtain⟨v,l,e1,hV,hl1⟩:=hv.dG;obtain⟨u,l2,e2,hU,_⟩:=hl1.dG;subst e2;exact .yield (Ez hr hl (at0 hats) (at1 hats) (ar0 e1) (ar1 e1) hV hU)
 ·rename_i t _ x _ hats;obtain⟨v,l,e1,hV,_⟩:=hv.dG;obtain⟨q,hq,he⟩:=az hl;simp only[m8] at he;obtain⟨rfl,rfl⟩:=he;exact .pure hr (NH hr hq (at0 hats) (ar0 e1) hV)
 ·rename_i t _ o n es c hats;obtain⟨v,l,e1,hV,_⟩:=hv.dG;split at hl
  ·rename_i e hu;simp only[qr,m8] at hl;obtain⟨rfl,rfl⟩:=hl;have a0:=ar0 e1;refine .pure hr ⟨goInt c,?_,.int _ _⟩
   cases hV with
   | gV h0=>simp only[Builtin.cap_,at0 hats,a0,ne,aP hu,pp,m9]
   | slice hp hl hroom hcap haddr=>
    have:=hcap c rfl;subst this;simp only[Builtin.cap_,at0 hats,a0,ne,aP hu,pp,m9]
  ·simp at hl
 ·rename_i dt _ x y _ hats;obtain⟨v,l,e1,hV,hl1⟩:=hv.dG;obtain⟨u,l2,e2,hU,_⟩:=hl1.dG;subst e2;exact .yield (KW hr hl (at0 hats) (ar0 e1) (ar1 e1) hV hU)
 ·rename_i x l;obtain⟨v,us,e1,hV,hus⟩:=hv.dG;obtain⟨q,hq,he⟩:=az hl;simp only[m8] at he;obtain⟨rfl,rfl⟩:=he;obtain⟨z,hz,hZ⟩:=qu (P:=P) (w:=w) false l x q v us hq hV hus;exact .pure hr ⟨z,by simp only[Builtin.min_,e1];exact hz,hZ⟩
 ·rename_i x l;obtain⟨v,us,e1,hV,hus⟩:=hv.dG;obtain⟨q,hq,he⟩:=az hl;simp only[m8] at he;obtain⟨rfl,rfl⟩:=he;obtain⟨z,hz,hZ⟩:=qu (P:=P) (w:=w) true l x q v us hq hV hus;exact .pure hr ⟨z,by simp only[Builtin.max_,e1];exact hz,hZ⟩
 ·rename_i t _ x k _ hats;obtain⟨v,l,e1,hV,hl1⟩:=hv.dG;obtain⟨u,l2,e2,hU,_⟩:=hl1.dG;subst e2;exact .yield (EX hr hl (at0 hats) (ar0 e1) (ar1 e1) hV hU)
 ·rename_i t _ x _ hats;obtain⟨v,l,e1,hV,_⟩:=hv.dG;exact .yield (HG hr hl (at0 hats) (ar0 e1) hV)
 ·simp at hl
variable{outs:List (Option AV×H)}
def Qo{t:Tr AV}(hρ:∀x a,ev t x=some a->V σ a (ρ x))(hr:HR σ h w)(hl:ew P t h o.op=some outs):
 ∃r h',(r,h')∈outs/\wB P σ h h' w r (execOp ρ o):=by
 have pv:∀(q:Option AV) (s:Sem Value),q.map (λx=>[(some x,h)])=some outs->(∀a,q=some a->∃z,s.run P w=.ok z w/\V σ a z)->execOp ρ o=(do Pure.pure (Next.value (<-s)))->∃r h',(r,h')∈outs/\wB P σ h h' w r (execOp ρ o):=by
  intro q s hq hs he;obtain⟨a,ha,rfl⟩:=Ll hq;exact⟨_,_,rx rfl,he▸.pure hr (hs a ha)⟩
 have pvh:∀(q:Option (AV×H)) (s:Sem Value),q.map (λx=>[(some x.1,x.2)])=some outs->(∀a h',q=some (a,h')->Yields P σ h h' w a s)->execOp ρ o=(do Pure.pure (Next.value (<-s)))->∃r h',(r,h')∈outs/\wB P σ h h' w r (execOp ρ o):=by
  intro q s hq hs he;obtain⟨⟨a,h'⟩,ha,rfl⟩:=Ll hq;exact⟨_,_,rx rfl,he▸.yield (hs a h' ha)⟩
 have pu:∀(q:Option H) (s:Sem Unit),q.map (λx=>[((none:Option AV),x)])=some outs->(∀h',q=some h'->∃w',s.run P w=.ok () w'/\HR σ h' w'/\Ext σ σ h h' w w')->execOp ρ o=(do s;Pure.pure Next.skip)->∃r h',(r,h')∈outs/\wB P σ h h' w r (execOp ρ o):=by
  intro q s hq hs he;obtain⟨h',ha,rfl⟩:=Ll hq;exact⟨_,_,rx rfl,he▸.unit (hs h' ha)⟩
 have al:∀q:Option (AV×H),q.map (λx=>[(some x.1,x.2)])=some outs->q=(pc P t o.op h.next).map (λ(v,ob)=>(v,({ h.lay h.next ob with next:=h.next+1 }:H)))->∃r h',(r,h')∈outs/\wB P σ h h' w r (execOp ρ o):=by
  intro q hq he;obtain⟨⟨a,h'⟩,ha,rfl⟩:=Ll hq;rw[he] at ha;obtain⟨⟨v,ob⟩,hv,hx⟩:=az ha;simp only[m8] at hx;obtain⟨rfl,rfl⟩:=hx;obtain⟨σ',z,w',k1,k2,k3,k4,_⟩:=Ht hρ (hr.more (h.next+1) i4) (id:=h.next) hv (hr.fresh _ (ap _)) ge hr.C3 (λj cs hj=>by have:=(hr.bV j cs _ hj).1;omega);rw[<-Fv] at k3 k4;exact⟨_,_,rx rfl,σ',.value z,w',k1,⟨z,rfl,k2⟩,k3,k4.more i4⟩
 have ll:∀{α β:Type} {q:Option α} {f:α->Option β} {y:β},q.bind f=some y->∃a,q=some a/\f a=some y:=λh=>mB h
 cases ho:o.op with
 | move x=>
  rw[ho] at hl;simp only[ew] at hl;exact pv _ (Pure.pure (ρ x)) hl (λa ha=>⟨_,rfl,hρ _ _ ha⟩) (by simp only[execOp,ho];rfl)
 | assign x=>
  rw[ho] at hl;simp only[ew] at hl;exact pv _ (Pure.pure (ρ x)) hl (λa ha=>⟨_,rfl,hρ _ _ ha⟩) (by simp only[execOp,ho];rfl)
 | pick c a b=>
  rw[ho] at hl;simp only[ew] at hl;obtain⟨a',ha,hl⟩:=ll hl;obtain⟨b',hb,hl⟩:=ll hl;split at hl
  ·rename_i hc;have hcV:=hρ _ _ hc;generalize hg:ρ c=v at hcV;cases hcV;exact pv _ (do Pure.pure (if <-asBool (ρ c) then ρ a else ρ b)) hl (λx hx=>⟨ρ a,by simp[hg,asBool],by simp only[qr] at hx;subst hx;exact hρ _ _ ha⟩) (by simp only[execOp,ho,bind_assoc,pure_bind])
  ·rename_i hc;have hcV:=hρ _ _ hc;generalize hg:ρ c=v at hcV;cases hcV;exact pv _ (do Pure.pure (if <-asBool (ρ c) then ρ a else ρ b)) hl (λx hx=>⟨ρ b,by simp[hg,asBool],by simp only[qr] at hx;subst hx;exact hρ _ _ hb⟩) (by simp only[execOp,ho,bind_assoc,pure_bind])
  ·simp at hl
 | alloc e=>rw[ho] at hl;simp only[ew] at hl;exact al _ hl (by rw[ho])
 | box e x=>rw[ho] at hl;simp only[ew] at hl;exact al _ hl (by rw[ho])
 | buildSlice tt n ps=>rw[ho] at hl;simp only[ew] at hl;exact al _ hl (by rw[ho])
 | makeMap tt r=>rw[ho] at hl;simp only[ew] at hl;exact al _ hl (by rw[ho])
 | makeSlice tt l c=>rw[ho] at hl;simp only[ew] at hl;exact al _ hl (by rw[ho])
 | build tt ps=>
  rw[ho] at hl;simp only[ew] at hl;refine pv _ (Instr.build tt (ps.map λ(i,x)=>(i,ρ x))) hl (λa ha=>?_) (by simp only[execOp,ho]);obtain⟨qs,hq,hb⟩:=ll ha;exact Hz hb (by simpa using vn hρ ps.toList qs hq)
 | load tt a=>
  rw[ho] at hl;simp only[ew] at hl;split at hl
  ·rename_i id off ha;have hV:=hρ _ _ ha;generalize hg:ρ a=v at hV
   cases hV with
   | ptr hp=>
    refine pv _ (Instr.loadAt tt (ρ a)) hl (λr hr'=>?_) (by simp only[execOp,ho]);obtain⟨z,h1,h2⟩:=hr.Fz (P:=P) hr' hp;exact⟨z,by simp only[Instr.loadAt,hg,Instr.sureAddr,ne,m9,pp];exact h1,h2⟩
  ·simp at hl
 | store tt a x=>
  rw[ho] at hl;simp only[ew] at hl;split at hl
  ·rename_i id off y ha hx;have hV:=hρ _ _ ha;generalize hg:ρ a=v at hV
   cases hV with
   | ptr hp=>
    refine pu _ (Instr.storeAt tt (ρ a) (ρ x)) hl (λh' hh=>?_) (by simp only[execOp,ho]);obtain⟨w',h1,h2,h3⟩:=hr.Dw (P:=P) hh hp (hρ _ _ hx);exact⟨w',by simp only[Instr.storeAt,hg,Instr.sureAddr,ne,m9,pp];exact h1,h2,h3⟩
  ·simp at hl
 | nilCheck x=>
  rw[ho] at hl;simp only[ew] at hl;obtain⟨a,ha,rfl⟩:=Ll hl;obtain⟨y,hy,hn⟩:=ll ha;obtain⟨z,h1,h2⟩:=AL (P:=P) (w:=w) (ρ:=ρ) (o:=o) hn (hρ _ _ hy) ho;exact⟨_,_,rx rfl,σ,_,w,h1,⟨z,rfl,h2⟩,hr,.refl _ _ _⟩
 | binOp op xt x y yt=>
  rw[ho] at hl;simp only[ew] at hl;refine pv _ (do eqGuard op xt x y (ρ x) (ρ y);binOp op xt (ρ x) (ρ y)) hl (λa ha=>?_) (by simp only[execOp,ho]);obtain⟨x',hx,ha⟩:=ll ha;obtain⟨y',hy,ha⟩:=ll ha;obtain⟨z,h1,h2⟩:=MI (P:=P) (w:=w) ha (hρ _ _ hx) (hρ _ _ hy);exact⟨z,by simp only[ne,E0 ha (hρ _ _ hx) (hρ _ _ hy),pp];exact h1,h2⟩
 | unOp op tt x=>
  rw[ho] at hl;simp only[ew] at hl;refine pv _ (Op.unary op (ρ x)) hl (λa ha=>?_) (by simp only[execOp,ho]);obtain⟨x',hx,ha⟩:=ll ha;exact QQ ha (hρ _ _ hx)
 | convert s d x=>
  rw[ho] at hl;simp only[ew] at hl;refine pv _ (convert s d (ρ x)) hl (λa ha=>?_) (by simp only[execOp,ho]);obtain⟨x',hx,ha⟩:=ll ha;exact KV ha (hρ _ _ hx)
 | makeInterface xt x=>
  rw[ho] at hl;simp only[ew] at hl;split at hl
  ·simp at hl
  ·rename_i d hni hu;refine pv _ (Instr.makeInterface xt (ρ x)) hl (λa ha=>?_) (by simp only[execOp,ho]);obtain⟨x',hx,rfl⟩:=az ha;refine⟨.iface xt (ρ x),?_,.iface (hρ _ _ hx)⟩;simp only[Instr.makeInterface,ne,aP hu,pp]
   cases d<;>first
    | rfl
    | exact un rfl (hni _)
  ·simp at hl
 | makeFunc f first cap=>
  rw[ho] at hl;simp only[ew] at hl
  have hny:∀l,f≠.yield l:=by intro l e;subst e;simp at hl
  have hl2:((AA t first.toList).bind λa=>(AA t cap.toList).map λb=>AV.fn f a b).map (λx=>[(some x,h)])=some outs:=by
   cases f<;>first
    | exact hl
    | simp at hl
  refine pv _ (Instr.makeFunc f (first.map ρ) (cap.map ρ)) hl2 (λa ha=>?_) (by simp only[execOp,ho]);obtain⟨aS,h1,ha⟩:=ll ha;obtain⟨bs,h2,rfl⟩:=az ha;have r1:=rb hρ _ _ h1;have r2:=rb hρ _ _ h2;refine⟨.func f (first.map ρ) (cap.map ρ),rfl,.fn hny (by have:=r1.1;simpa using this) (λi a v x y=>r1.2 i a v x ?_) (by have:=r2.1;simpa using this) (λi a v x y=>r2.2 i a v x ?_)⟩
  ·rw[<-aa,bk] at y;exact y
  ·rw[<-aa,bk] at y;exact y
 | slice tt x lo hi mx=>
  rw[ho] at hl;simp only[ew] at hl;refine pv _ (Instr.sliceAt tt (ρ x) (lo.map ρ) (hi.map ρ) (mx.map ρ)) hl (λa ha=>?_) (by simp only[execOp,ho]);obtain⟨x',hx,ha⟩:=ll ha;obtain⟨lo',h1,ha⟩:=ll ha;obtain⟨hi',h2,ha⟩:=ll ha;obtain⟨mx',h3,ha⟩:=ll ha
  have vo:∀(y:Option Operand) (y':Option AV),Ni t y=some y'->VO σ y' (y.map ρ):=by
   intro y y' hy
   cases y with
   | none=>simp[Ni] at hy;subst hy;exact trivial
   | some y=>
    simp only[Ni] at hy;obtain⟨z,hz,rfl⟩:=az hy;exact hρ _ _ hz
  exact Ix hr ha (hρ _ _ hx) (vo _ _ h1) (vo _ _ h2) (vo _ _ h3)
 | fieldAddr s x f=>
  rw[ho] at hl;simp only[ew] at hl;refine pv _ (Instr.fieldAt s (ρ x) f) hl (λa ha=>?_) (by simp only[execOp,ho]);obtain⟨x',hx,ha⟩:=ll ha;exact yi ha (hρ _ _ hx)
 | field s x f=>
  rw[ho] at hl;simp only[ew] at hl;refine pv _ (Instr.field s (ρ x) f) hl (λa ha=>?_) (by simp only[execOp,ho]);obtain⟨x',hx,ha⟩:=ll ha;exact HQ ha (hρ _ _ hx)
 | indexAddr tt x i=>
  rw[ho] at hl;simp only[ew] at hl;refine pv _ (Instr.indexAt tt (ρ x) (ρ i)) hl (λa ha=>?_) (by simp only[execOp,ho]);obtain⟨x',hx,ha⟩:=ll ha;obtain⟨i',hi,ha⟩:=ll ha;exact yu ha (hρ _ _ hx) (hρ _ _ hi)
 | index tt x i=>
  rw[ho] at hl;simp only[ew] at hl;refine pv _ (Instr.index tt (ρ x) (ρ i)) hl (λa ha=>?_) (by simp only[execOp,ho]);obtain⟨x',hx,ha⟩:=ll ha;obtain⟨i',hi,ha⟩:=ll ha;exact H0 ha (hρ _ _ hx) (hρ _ _ hi)
 | lookup tt x k ok=>
  rw[ho] at hl;simp only[ew] at hl;refine pv _ (Instr.lookup tt (ρ x) (ρ k) ok) hl (λa ha=>?_) (by simp only[execOp,ho]);obtain⟨x',hx,ha⟩:=ll ha;obtain⟨k',hk,ha⟩:=ll ha;exact FB hr ha (hρ _ _ hx) (hρ _ _ hk)
 | mapUpdate tt m k x=>
  rw[ho] at hl;simp only[ew] at hl;refine pu _ (Instr.mapUpdate tt (ρ m) (ρ k) (ρ x)) hl (λh' hh=>?_) (by simp only[execOp,ho]);obtain⟨m',hm,hh⟩:=ll hh;obtain⟨k',hk,hh⟩:=ll hh;obtain⟨x',hx,hh⟩:=ll hh;exact qC hr hh (hρ _ _ hm) (hρ _ _ hk) (hρ _ _ hx)
 | insert tt m k x=>
  rw[ho] at hl;simp only[ew] at hl;refine pu _ (Instr.mapUpdate tt (ρ m) (ρ k) (ρ x)) hl (λh' hh=>?_) (by simp only[execOp,ho]);obtain⟨m',hm,hh⟩:=ll hh;obtain⟨k',hk,hh⟩:=ll hh;obtain⟨x',hx,hh⟩:=ll hh;exact qC hr hh (hρ _ _ hm) (hρ _ _ hk) (hρ _ _ hx)
 | mapEntry tt m k=>
  rw[ho] at hl;simp only[ew] at hl;refine pvh _ (Instr.mapEntry tt (ρ m) (ρ k)) hl (λa h' hh=>?_) (by simp only[execOp,ho]);obtain⟨m',hm,hh⟩:=ll hh;obtain⟨k',hk,hh⟩:=ll hh;obtain⟨z,w',h1,h2,h3,h4⟩:=AJ (P:=P) hr hh (hρ _ _ hm) (hρ _ _ hk);exact⟨σ,z,w',h1,h2,h3,h4⟩
 | entryStore tt m s x=>
  rw[ho] at hl;simp only[ew] at hl;refine pu _ (Instr.entryStore tt (ρ m) (ρ s) (ρ x)) hl (λh' hh=>?_) (by simp only[execOp,ho]);obtain⟨m',hm,hh⟩:=ll hh;obtain⟨s',hs,hh⟩:=ll hh;obtain⟨x',hx,hh⟩:=ll hh;exact wJ hr hh (hρ _ _ hm) (hρ _ _ hs) (hρ _ _ hx)
 | range tt x=>
  rw[ho] at hl;simp only[ew] at hl;refine pvh _ (Instr.range tt (ρ x)) hl (λa h' hh=>?_) (by simp only[execOp,ho]);obtain⟨x',hx,hh⟩:=ll hh;exact Is hr hh (hρ _ _ hx)
 | next it isS=>
  rw[ho] at hl;simp only[ew] at hl;split at hl
  ·rename_i x hx;obtain⟨l,h1,rfl⟩:=az hl;obtain⟨r,h',h2,h3⟩:=Lr (P:=P) (T:=o.type) hr h1 (hρ _ _ hx);refine⟨some r,h',mem_map.2 ⟨(r,h'),h2,rfl⟩,?_⟩
   have:execOp ρ o=(do Pure.pure (Next.value (<-Instr.next (ρ it) isS o.type))):=by simp only[execOp,ho]
   rw[this];exact .yield h3
  ·simp at hl
 | entry it=>
  rw[ho] at hl;simp only[ew] at hl;refine pv _ (Instr.entry (ρ it)) hl (λa ha=>?_) (by simp only[execOp,ho]);obtain⟨x',hx,ha⟩:=ll ha;exact HM hr ha (hρ _ _ hx)
 | extract x i=>
  rw[ho] at hl;simp only[ew] at hl;split at hl
  ·rename_i vs hx;refine pv _ (Instr.extract (ρ x) i) hl (λa ha=>?_) (by simp only[execOp,ho]);obtain⟨us,hg,hus⟩:=(hρ _ _ hx).Ik;obtain⟨z,h1,h2⟩:=hus.get ha;refine⟨z,?_,h2⟩
   have:us[i]?=some z:=by rw[<-aa];exact h1
   simp only[hg,Instr.extract,this,m9]
  ·simp at hl
 | typeAssert x xt aS ok=>
  rw[ho] at hl;simp only[ew] at hl;split at hl
  ·simp at hl
  ·rename_i d hni hu;split at hl
   ·rename_i dt y hx;obtain⟨hd,hl2⟩:=aI hl;clear hl;have:=cU hd;subst this;refine pv _ (Instr.typeAssert (ρ x) xt dt ok) hl2 (λa ha=>?_) (by simp only[execOp,ho]);simp only[qr] at ha;subst ha;have hV:=hρ _ _ hx;generalize hg:ρ x=v at hV
    cases hV with
    | @iface _ _ z hz=>
     refine⟨if ok then .tuple #[z,.bool true] else z,?_,?_⟩
     ·simp only[Instr.typeAssert,ne,aP hu,pp]
      cases d<;>first
       | (simp;done)
       | exact un rfl (hni _)
     ·cases ok
      ·exact hz
      ·exact .fR (.cons hz (.cons (.bool _) .nil))
   ·simp at hl
  ·simp at hl
 | call c=>
  rw[ho] at hl;obtain⟨callee,args,argTypes⟩:=c
  cases callee with
  | builtin b=>
   simp only[ew] at hl;obtain⟨⟨a,h'⟩,ha,rfl⟩:=Ll hl;obtain⟨xs,hx,hb⟩:=ll ha;refine⟨_,_,rx rfl,?_⟩;have:=rb hρ args.toList xs hx;have hd:=Cy (T:=o.type) (cn:=args.map λ| .const _=>true | _=>false) (args:=args.map ρ) hr hb (by simpa using this);obtain⟨σ',x,w',h1,h2,h3,h4⟩:=hd;refine⟨σ',x,w',?_,h2,h3,h4⟩;simp only[execOp,ho,resolve,ne,m9,pp,invoke];exact h1
  | value f=>simp[ew] at hl
  | invoke r m=>simp[ew] at hl
 | ready g=>rw[ho] at hl;simp[ew] at hl
 | waits g=>rw[ho] at hl;simp[ew] at hl
 | sliceToArrayPointer d x=>rw[ho] at hl;simp[ew] at hl
 | makeChan tt s=>rw[ho] at hl;simp[ew] at hl
 | go c=>rw[ho] at hl;simp[ew] at hl
 | defer c=>rw[ho] at hl;simp[ew] at hl
 | panic x=>rw[ho] at hl;simp[ew] at hl
 | send ch x=>rw[ho] at hl;simp[ew] at hl
 | recv ct ch ok=>rw[ho] at hl;simp[ew] at hl
 | select cs b=>rw[ho] at hl;simp[ew] at hl
def SA(σ:Sg)(d:jv)(d':Deferred):Prop:=match d.fn with
 | none=>∃q,σ d.EE=some q/\d'={ target:=.collected q.b,args:=#[] }
 | some f=>∃g cap',f=.func g/\d'.target=.fn (.func g) cap'/\VL σ d.args d'.args.toList/\VL σ d.cap cap'.toList
def QV(σ:Sg):List jv->List Deferred->Prop
 | [],[]=>True
 | d::ds,d'::ds'=>SA σ d d'/\QV σ ds ds'
 | _,_=>False
def SA.mono{σ σ':Sg}(hle:∀id p,σ id=some p->σ' id=some p){d:jv}{d':Deferred}(h:SA σ d d'):SA σ' d d':=by
 unfold SA at *
 revert h
 cases d.fn with
 | none=>intro h;obtain⟨q,h1,h2⟩:=h;exact⟨q,hle _ _ h1,h2⟩
 | some f=>intro h;obtain⟨g,cap',h1,h2,h3,h4⟩:=h;exact⟨g,cap',h1,h2,h3.mono hle,h4.mono hle⟩
def QV.mono{σ σ':Sg}(hle:∀id p,σ id=some p->σ' id=some p):∀{ds:List jv} {ds':List Deferred},QV σ ds ds'->QV σ' ds ds'
 | [],[],_=>trivial
 | _::_,_::_,h=>⟨h.1.mono hle,QV.mono hle h.2⟩
structure SR (σ:Sg) (st:St) (a:Act) (w:World):Prop where
 t:TR σ st.t st.n a.tmps
 h:HR σ st.h w
 ds:QV σ st.ds a.defers
def TR.ev{σ:Sg}{t:Tr AV}{n:Nat}{a:Act}(h:TR σ t n a.tmps):∀x y,ev t x=some y->V σ y (a.eval x):=by
 intro x y hx
 cases x with
 | tmp i=>
  simp only[Ev.ev,qr] at hx;have:=h.2 i;simp only[Act.eval]
  cases hg:t.get i with
  | none=>rw[hg] at hx this;subst hx;exact this
  | some v=>rw[hg] at hx this;subst hx;exact this
 | const v=>exact My _ _ _ hx
 | func f=>
  simp only[Ev.ev,qr] at hx;subst hx;exact .fn ge rfl (λi a v x _=>by simp at x) rfl (λi a v x _=>by simp at x)
 | global g=>simp[Ev.ev] at hx
def TR.put{σ:Sg}{t:Tr AV}{n:Nat}{a:Act}(h:TR σ t n a.tmps){d:Nat}{x:AV}{v:Value}(hd:d<n)(hv:V σ x v):TR σ (t.put d (some x)) n (a.put (some d) v).tmps:=by
 refine⟨by simp[Act.put,h.1],?_⟩;intro i;rw[dA];simp only[Act.put,ay,cd];by_cases hi:i=d
 ·subst hi;rw[ut rfl,ut rfl,ut (by rw[h.1];exact hd)];exact hv
 ·rw[v6 hi,v6 (λe=>hi e.symm)];have:=h.2 i;rw[ay] at this;exact this
def put_defers(a:Act)(d:Option Tmp)(v:Value):(a.put d v).defers=a.defers:=by cases d<;>rfl
def Cj(P:Program)(r:Result Next)(R:Value->World->Prop):Prop:=match r with
 | .ok (.value v) w'=>R v w'
 | .ok (.enter f args) w'=>Calls P f args w' (λe w''=>∃v,e=.returned v/\R v w'')
 | .ok (.round l f tmps a b) w'=>∀n,RoundIn Fence.wide n P l f tmps a b w' (λe w''=>∃v,e=.returned v/\R v w'')
 | _=>False
def Uu(σ:Sg)(h:H)(w:World)(outs:List (AV×H))(v:Value)(w':World):Prop:=∃a h',(a,h')∈outs/\∃σ',V σ' a v/\HR σ' h' w'/\Ext σ σ' h h' w w'
variable{F:Fence}
def Aw{l:Nat}{f:FuncId}{R:Ending->World->Prop}(h:CallsIn F n P f args w R):CallsIn (F.inRound l) n P f args w R:=h
def AR{l k:Nat}{f:FuncId}{t:Array Value}{a b:Code}{R:Ending->World->Prop}(h:RoundIn F n P k f t a b w R):RoundIn (F.inRound l) n P k f t a b w R:=h
def Ci(σ:Sg)(ro:Option Nat)(F:Fence):Prop:=match ro with
 | none=>F=Fence.wide
 | some id=>∃p,σ id=some p/\F=Fence.wide.inRound p.b
variable{ro:Option Nat}
def Ci.mono{σ':Sg}(hle:∀id p,σ id=some p->σ' id=some p)(h:Ci σ ro F):Ci σ' ro F:=by
 cases ro with
 | none=>exact h
 | some id=>obtain⟨p,h1,h2⟩:=h;exact⟨p,hle _ _ h1,h2⟩
def Ci.fn{σ:Sg}{ro:Option Nat}{F:Fence}(h:Ci σ ro F)(f:FuncId):F.fn f:=by
 cases ro with
 | none=>rw[show F=Fence.wide from h];trivial
 | some id=>obtain⟨p,_,rfl⟩:=h;trivial
def Ci.depth{σ:Sg}{ro:Option Nat}{F:Fence}(h:Ci σ ro F):F.depth=none:=by
 cases ro with
 | none=>rw[show F=Fence.wide from h];rfl
 | some id=>obtain⟨p,_,rfl⟩:=h;rfl
def Ci.calls(h:Ci σ ro F){f:FuncId}{R:Ending->World->Prop}(hc:Calls P f args w R):CallsIn F n P f args w R:=by
 cases ro with
 | none=>rw[show F=Fence.wide from h];exact callsIn_wide.2 hc
 | some id=>obtain⟨p,_,rfl⟩:=h;exact Aw (callsIn_wide.2 hc)
def Ci.rounds(h:Ci σ ro F){k:Nat}{f:FuncId}{t:Array Value}{a b:Code}{R:Ending->World->Prop}(hc:RoundIn Fence.wide n P k f t a b w R):RoundIn F n P k f t a b w R:=by
 cases ro with
 | none=>rw[show F=Fence.wide from h];exact hc
 | some id=>obtain⟨p,_,rfl⟩:=h;exact AR hc
def QR(hF:Ci σ ro F){a:Act}{next:Act->World->Prop}{Q:Exit->Act->World->Prop}{r:Result Next}{R:Value->World->Prop}
 (hf:Cj P r R) (hn:∀v w',R v w'->next (a.put o.dst v) w'):o.uponIn F n P a next Q r:=by
 cases r with
 | halt h w=>exact hf.elim
 | ok x w'=>
  cases x with
  | value v=>exact hn v w' hf
  | enter f args=>
   have h2:=hF.calls (n:=n-1) hf;refine⟨λh=>by rw[hF.depth] at h;simp at h,h2.1,λcs hr=>?_⟩;obtain⟨e,w'',fr,⟨v,rfl,hR⟩,h3⟩:=h2.2 cs hr;exact⟨.returned v,w'',fr,hn v w'' hR,h3⟩
  | round l f tmps aS b=>
   refine⟨λh=>by rw[hF.depth] at h;simp at h,?_⟩
   exact(hF.rounds (hf (n-1))).mono λe w'' ⟨v,he,hR⟩=>by subst he;exact hn v w'' hR
  | _=>exact hf.elim
variable{xs:List AV}{cap:List AV}
def HA{t:Tr AV}{c:Call}{f:Fn}(h:pj P t c=some (f,xs,cap))(hρ:∀x a,ev t x=some a->V σ a (ρ x))(T:TypeId):
 (∃g args',f=.func g/\VL σ (xs++cap) args'.toList/\((do let d <-resolve ρ c T;invoke d.target d.args):Sem Next).run P w=(callFunc g args').run P w)\/
 (∃id p args',f=.yield id/\σ id=some p/\VL σ (xs++cap) args'.toList/\((do let d <-resolve ρ c T;invoke d.target d.args):Sem Next).run P w=(Instr.yield p.b args').run P w)\/
 (∀g,f≠.func g)/\(∀id,f≠.yield id):=by
 unfold pj at h;obtain⟨callee,args,ats⟩:=c;simp only at h
 cases callee with
 | builtin b=>simp at h
 | value g=>
  simp only at h;split at h
  ·rename_i fn first cp hg
   obtain⟨ys,hy,he⟩:=az h;simp only[m8] at he;obtain⟨rfl,rfl,rfl⟩:=he;have hys:=rb hρ _ _ hy;have hV:=hρ _ _ hg;generalize hgv:ρ g=v at hV
   cases hV with
   | @fn _ _ _ fs' cs' hfy h1 h2 h3 h4=>
    have hfs:VL σ first fs'.toList:=⟨by simpa using h1,λi a v x y=>h2 i a v x (by simpa using y)⟩
    have hcs:VL σ cp cs'.toList:=⟨by simpa using h3,λi a v x y=>h4 i a v x (by simpa using y)⟩
    cases fn with
    | func k=>
     refine .inl ⟨k,fs'++args.map ρ++cs',rfl,?_,?_⟩
     ·simp only[be,bk];exact(hfs.append hys).append hcs
     ·simp only[resolve,hgv,Deferred.ofValue,ne,m9,pp,invoke]
    | yield l=>exact un rfl (hfy l)
    | method nm=>exact .inr (.inr ⟨by simp,by simp⟩)
    | methodOf tt nm=>exact .inr (.inr ⟨by simp,by simp⟩)
    | via tt p q b=>exact .inr (.inr ⟨by simp,by simp⟩)
   | @yield id p hp=>
    refine .inr (.inl ⟨id,p,#[]++args.map ρ,rfl,hp,?_,?_⟩)
    ·simp only[be,bk,d4,fd];exact hys
    ·simp only[resolve,hgv,Deferred.ofValue,ne,m9,pp,invoke]
  ·simp at h
 | invoke r name=>
  simp only at h;split at h
  ·rename_i tt v hr;obtain⟨g,hg,h⟩:=mB h;obtain⟨ys,hy,he⟩:=az h;simp only[m8] at he;obtain⟨rfl,rfl,rfl⟩:=he;have hys:=rb hρ _ _ hy;have hV:=hρ _ _ hr;generalize hgv:ρ r=rv at hV
   cases hV with
   | @iface _ _ vv hva=>
    obtain⟨i,m,d,hi,hf,hp,hfu,hu,hd⟩:=vL hg;refine .inl ⟨g,#[vv]++args.map ρ,rfl,?_,?_⟩
    ·simp only[be,bk,fd];exact .cons hva hys
    ·have hpath:m.path.toList=[]:=by
      have:=hp;simpa using this
     have hm:(method (P.types.size+Made.depth) tt vv name).run P w=.ok (g,vv) w:=by
      rw[show P.types.size+Made.depth=(P.types.size+99)+1 from rfl];generalize P.types.size+99=kk;simp only[method,ne,c7 hi,pp,hf,hpath,follow,m9,hfu,receiverAt,aP hu]
      cases d<;>first
       | rfl
       | exact un rfl (hd _)
     have he0:(#[Value.iface tt vv]++args.map ρ)[0]?=some (Value.iface tt vv):=by rw[Array.getElem?_append_left ge];rfl
     have he1:(#[Value.iface tt vv]++args.map ρ).extract 1 (#[Value.iface tt vv]++args.map ρ).size=args.map ρ:=by
      apply ext';simp;exact b8 ge
     simp only[resolve,hgv,ne,m9,pp,invoke,he0,he1,callMethod,run_program,hm]
  ·simp at h
def Ar{ops:Array Oper}{t:Tr AV}{a:Act}{b:Bool}(h:uE ops.toList t n o=some b)(ht:TR σ t n a.tmps):Region.wanted o (yielded ops a.tmps)=b:=by
 unfold uE at h;unfold Region.wanted;split at h
 ·rename_i hg;rw[hg];simpa using h
 ·rename_i j want hg;rw[hg];simp only;split at h
  ·rename_i d hd;obtain⟨hlt,h2⟩:=aI h;have hlt:=fK hlt
   have hd':(ops[j]?).bind (·.dst)=some d:=by rw[<-aa];exact hd
   have hsz:d<a.tmps.size:=by rw[ht.1];exact hlt
   have hv:=ht.2 d;have hget:a.tmps[d]?=some (a.tmps[d]):=bt hsz;rw[ay,hget] at hv;simp only[d7] at hv
   have hy:yielded ops a.tmps j=match a.tmps[d] with | .bool b=>some b | _=>none:=by
    unfold yielded;rw[hd'];simp only[m7,hget];cases a.tmps[d]<;>rfl
   rw[hy];generalize a.tmps[d]=v at hv;split at h2
   ·rename_i x hx;rw[hx] at hv;simp only[d7] at hv;cases hv;simp only[qr] at h2;subst h2;cases x<;>cases want<;>rfl
   ·rename_i hx;rw[hx] at hv;simp only[d7] at hv;obtain⟨vs,rfl,_⟩:=hv.Ik;simp only[qr] at h2;subst h2;rfl
   ·rename_i hx;rw[hx] at hv;obtain⟨vs,rfl,_⟩:=V.Ik (cs:=[]) hv;simp only[qr] at h2;subst h2;rfl
   ·simp at h2
  ·simp at h
def U4:Ex->Exit->Prop
 | .normal,e=>e=.normal
 | .ret,e=>e=.ret
 | .exit id,e=>e=.exit id
 | .goto l,e=>e=.goto l
variable{d:Nat}
def ue(hr:HR σ h w){st:LoopState}{p:Option Code}{t:Tr AV}{ps:Array Tmp}{x y:Code}(hl:h.pG id=some (st,p,t,n,ps,x,y,d)):
 h.aW.get id=some (.loop st p t n ps x y d)/\∃q,σ id=some q/\∃f tmps qd,w.heap[q.b]?=some (.loop { state:=st,pending:=p,fn:=f,tmps,params:=ps,assign:=x,body:=y,defers:=qd.b })/\σ d=some qd/\TR σ t n tmps:=by
 unfold H.pG at hl;split at hl
 ·rename_i ho;simp only[qr,m8] at hl;obtain⟨rfl,rfl,rfl,rfl,rfl,rfl,rfl,rfl⟩:=hl;obtain⟨q,hq,f,tmps,qd,h1,h2,h3⟩:=hr.obj id _ ho;exact⟨ho,q,hq,f,tmps,qd,h1,h2,h3⟩
 ·simp at hl
def HR.newObj{σ:Sg}{h:H}{w:World}(hr:HR σ h w){o:AO}{ob:Obj}(hc:lW o=false)(hor:OR (up σ h.next ⟨w.heap.size,0,0⟩) o ⟨w.heap.size,0,0⟩ (some ob)):
 HR (up σ h.next ⟨w.heap.size,0,0⟩) (h.newObj o).2 { w with heap:=w.heap.push ob }/\Ext σ (up σ h.next ⟨w.heap.size,0,0⟩) h (h.newObj o).2 w { w with heap:=w.heap.push ob }:=by
 obtain⟨k1,k2⟩:=hr.new (r:=0) (o:=o) (ob:=ob) (w':={ w with heap:=w.heap.push ob }) (λcs f hf=>by subst hf;simp[lW] at hc) hor rfl rfl rfl rfl
 have he:({ h.lay h.next o with next:=h.next+1 }:H)=(h.newObj o).2:=by
  unfold H.lay H.newObj;split
  ·simp[lW] at hc
  ·rfl
 rw[he] at k1 k2;exact⟨k1,k2⟩
def sP(P:Program):Prop:=∀(f:FuncId) (fn:Func),P.funcs[f]?=some fn->fn.body.isSome=true->(fn.name== "runtime.NumGoroutine")=false
def ec(hng:sP P){f:FuncId}{fn:Func}(hf:P.funcs[f]?=some fn)(hb:fn.body.isSome=true)(args:Array Value)(w:World):(callFunc f args).run P w=.ok (.enter f args) w:=by
 have h1:=hng f fn hf hb
 have h2:fn.body.isNone=false:=by cases h:fn.body<;>simp_all
 simp only[callFunc,ne,run_program,pp,hf,h1,ba,if_false,h2,m9]
def K1(hF:Ci σ ro F){ps:Array Tmp}{assign body:Code}{st st1:St}{a:Act}(hs:SR σ st a w)(hen:CI ro ps assign body st=some (id,st1))(fn:FuncId):
 ∃(lb:Nat) (mark:List Deferred) (w1:World) (σ1:Sg) (p:sO),(Instr.enterLoop fn a.tmps ps assign body F.round).run P w=.ok (lb,mark) w1/\σ1 id=some p/\p.b=lb/\
  SR σ1 st1 { a with defers:=mark++a.defers } w1/\Ext σ σ1 st.h st1.h w w1/\st1.n=st.n:=by
 cases ro with
 | none=>
  have hF':F=Fence.wide:=hF;subst hF';simp only[CI,qr,m8] at hen;obtain⟨rfl,rfl⟩:=hen;obtain⟨k1,k2⟩:=hs.h.newObj (o:=.ml false) (ob:=.deferred (some [])) rfl rfl
  obtain⟨k3,k4⟩:=k1.newObj (o:=.loop .ready none st.t st.n ps assign body st.h.next) (ob:=.loop { state:=.ready,pending:=none,fn:=fn,tmps:=a.tmps,params:=ps,assign:=assign,body:=body,defers:=w.heap.size }) rfl
   ⟨fn,a.tmps,⟨w.heap.size,0,0⟩,rfl,oY (k1.fresh _ (ap _)) _ _ (ep _ _ _),(hs.t.mono k2.le).mono (oY (k1.fresh _ (ap _)))⟩
  have hle:=(k2.trans k4).le;refine⟨w.heap.size+1,[{ target:=.collected w.heap.size,args:=#[] }],_,_,⟨w.heap.size+1,0,0⟩,?_,?_,rfl,⟨hs.t.mono hle,k3,?_⟩,k2.trans k4,rfl⟩
  ·have hr:Fence.wide.round=none:=rfl;rw[hr];simp only[Instr.enterLoop,ne,run_newObj,pp,m9,Array.size_push]
  ·have:(w.heap.push (.deferred (some []))).size=w.heap.size+1:=by simp
   rw[<-this];exact ep _ _ _
  ·refine⟨⟨⟨w.heap.size,0,0⟩,oY (k1.fresh _ (ap _)) _ _ (ep _ _ _),rfl⟩,hs.ds.mono hle⟩
 | some l=>
  obtain⟨pl,hpl,rfl⟩:=hF;simp only[CI] at hen;obtain⟨r,hr,he⟩:=az hen;simp only[m8] at he;obtain⟨rfl,rfl⟩:=he;obtain⟨ls,p0,t0,n0,ps0,a0,b0,d0⟩:=r;obtain⟨ho,q,hq,f0,tm0,qd,g1,g2,g3⟩:=ue hs.h hr;rw[hpl] at hq;cases hq
  obtain⟨k3,k4⟩:=hs.h.newObj (o:=.loop .ready none st.t st.n ps assign body d0) (ob:=.loop { state:=.ready,pending:=none,fn:=fn,tmps:=a.tmps,params:=ps,assign:=assign,body:=body,defers:=qd.b }) rfl
   ⟨fn,a.tmps,qd,rfl,oY (hs.h.fresh _ (ap _)) _ _ g2,hs.t.mono (oY (hs.h.fresh _ (ap _)))⟩
  refine⟨w.heap.size,[],_,_,⟨w.heap.size,0,0⟩,?_,ep _ _ _,rfl,⟨hs.t.mono k4.le,k3,hs.ds.mono k4.le⟩,k4,rfl⟩;have hr:(Fence.wide.inRound pl.b).round=some pl.b:=rfl;rw[hr];simp only[Instr.enterLoop,Instr.getLoop,ne,cw g1 ge,run_newObj,pp,m9]
def sn:∀(aS:List AV) (i:Nat) (t:Tr AV) (j:Nat),(xQ i aS t).get j=if i<=j/\j<i+aS.length then aS[j-i]? else t.get j
 | [],i,t,j=>by simp only[xQ,i5];rw[v6 i4]
 | a::aS,i,t,j=>by
  simp only[xQ,sn aS (i+1) _ j,i7];by_cases h1:i+1<=j/\j<i+1+aS.length
  ·rw[ut h1,ut i4,show j-i=(j-(i+1))+1 by omega,ac]
  ·rw[v6 h1,dA];by_cases h2:j=i
   ·subst h2;rw[ut rfl,ut i4];simp
   ·rw[v6 h2,v6 i4]
variable{args':Array Value}
def Nd{args:List AV}(h:VL σ args args'.toList)(nt:Nat):
 TR σ (xQ 0 args .nil) (args.length+(nt-args.length)) (args'++fu (nt-args'.size) undef):=by
 have hl:args.length=args'.size:=by simpa using h.1
 refine⟨by simp;omega,?_⟩;intro i;rw[sn,ay,Array.getElem?_append];by_cases hi:i<args.length
 ·rw[ut i4,ut i4];obtain⟨v,h1,h2⟩:=h.get (jp hi)
  have h1':args'[i]?=some v:=by rw[<-aa];exact h1
  rw[h1',ey,jp hi];exact h2
 ·rw[v6 i4,v6 i4,get_nil];rw[Array.getElem?_replicate];split
  ·exact V.lK
  ·exact V.lK
def FE{P:Program}{w:World}{α:Type}{σ:Sg}{f:α->Option AV}{g:α->Sem Value}(hfg:∀x a,f x=some a->∃v,(g x).run P w=.ok v w/\V σ a v):∀(l:List α) (aS:List AV),l.mapM f=some aS->
 ∃vs:List Value,(l.mapM g).run P w=.ok vs w/\VL σ aS vs
 | [],aS,h=>by simp at h;subst h;exact⟨[],by simp,.nil⟩
 | x::l,aS,h=>by
  rw[cv] at h
  cases h1:f x with
  | none=>simp[h1] at h
  | some a=>
   cases h2:l.mapM f with
   | none=>simp[h1,h2] at h
   | some bs=>
    simp[h1,h2] at h;subst h;obtain⟨v,k1,k2⟩:=hfg x a h1;obtain⟨vs,k3,k4⟩:=FE hfg l bs h2;refine⟨v::vs,?_,.cons k2 k4⟩;rw[cv];simp only[ne,k1,pp,k3,m9]
def tS{t:Tr AV}{fn:Func}{a:Act}(ht:TR σ t n a.tmps)(hr:HR σ h w)(hres:tR P t h fn.results.toList=some r):
 ∃v,(results fn a.tmps).run P w=.ok v w/\V σ r v:=by
 unfold tR at hres;obtain⟨aS,h1,h2⟩:=az hres
 have hfg:∀(x:ResultVar) (y:AV),(match x with
  | ResultVar.tmp i=>ev t (.tmp i)
  | ResultVar.cell a tt=>match ev t (.tmp a) with
   | some (.ptr (some (id,off)))=>h.load P tt id off
   | _=>none)=some y->∃v,(match x with
  | .tmp t=>pure (a.tmps.getD t undef)
  | .cell q tt=>do loadVar tt (<-asAddr (a.tmps.getD q undef)):Sem Value).run P w=.ok v w/\V σ y v:=by
  intro x y hx
  cases x with
  | tmp i=>exact⟨_,rfl,ht.ev _ _ hx⟩
  | cell q tt=>
   simp only at hx;split at hx
   ·rename_i id off hq;have hV:=ht.ev _ _ hq;have he:a.eval (.tmp q)=a.tmps.getD q undef:=rfl;rw[he] at hV;generalize hg:a.tmps.getD q undef=v at hV
    cases hV with
    | ptr hp=>
     obtain⟨z,k1,k2⟩:=hr.Fz (P:=P) hx hp;exact⟨z,by simp only[hg,asAddr,ne,m9,pp];exact k1,k2⟩
   ·simp at hx
 obtain⟨vs,k1,k2⟩:=FE (P:=P) (w:=w) hfg fn.results.toList aS h1
 have hm:(fn.results.mapM λ
  | .tmp t=>pure (a.tmps.getD t undef)
  | .cell q tt=>do loadVar tt (<-asAddr (a.tmps.getD q undef)):Sem (Array Value)).run P w=.ok vs.toArray w:=by
  have e:∀(f:ResultVar->Sem Value),fn.results.mapM f=Functor.map List.toArray (fn.results.toList.mapM f):=by
   intro f;obtain⟨l⟩:=fn.results;exact List.mapM_toArray
  rw[e,Sem.run_map,k1];rfl
 refine⟨if h:vs.toArray.size=1 then vs.toArray[0] else .tuple vs.toArray,?_,?_⟩
 ·have key:(results fn a.tmps).run P w=(Result.ok vs.toArray w:Result (Array Value)).andThen (λvs w'=>.ok (if h:vs.size=1 then vs[0] else .tuple vs) w'):=by
   rw[<-hm];simp only[results,ne];rfl
  exact key
 ·split at h2
  ·rename_i v;subst h2;obtain⟨x,l,rfl,e1,e2⟩:=k2.dG;have:=e2.pE;subst this;simpa using e1
  ·rename_i hne;subst h2;have hl:=k2.1;by_cases hs:vs.toArray.size=1
   ·exfalso
    have:aS.length=1:=by simp at hs;omega
    match aS,this with
    | [v],_=>exact hne v rfl
   ·rw[dif_neg hs];exact .NO k2
def td{e:Ex}(h:ke e=true):e=.normal\/e=.ret:=by cases e<;>simp_all [ke]
def lower{σ':Sg}{h0:H}{w':World}(hr0:HR σ h0 w)(hr:HR σ' h' w')(hE:Ext σ σ' { h0 with low:=h0.next } h' w w'):
 HR σ' { h' with low:=gR h0.low h'.low } w'/\Ext σ σ' h0 { h' with low:=gR h0.low h'.low } w w':=by
 have hm:=dN h0.low h'.low;refine⟨⟨hr.obj,hr.fresh,hr.sep,hr.bV,em hm.2 hr.C3⟩,⟨hE.le,hE.next,hE.size,hE.os,hE.tape,hE.output,hE.SJ,hE.frame,hm.1,λid h1 h2=>hE.same id (Nat.lt_of_lt_of_le h1 hm.2) h2,hE.mu,hE.dC⟩⟩
def uc{σ:Sg}:∀(ps:List Tmp) (args:List AV) (vs:List Value) (n:Nat) (t t1:Tr AV) (tmps:Array Value),jo (ps.zip args) n t=some t1->VL σ args vs->TR σ t n tmps->
 TR σ t1 n ((ps.zip vs).foldl (λ(tmps:Array Value) (x:Tmp×Value)=>tmps.setIfInBounds x.1 x.2) tmps)
 | [],args,vs,n,t,t1,tmps,h,hv,ht=>by
  simp only[List.zip_nil_left,jo,qr] at h;subst h;simpa using ht
 | p::ps,[],vs,n,t,t1,tmps,h,hv,ht=>by
  have:=hv.pE;subst this;simp only[List.zip_nil_right,jo,qr] at h;subst h;simpa using ht
 | p::ps,a::args,vs,n,t,t1,tmps,h,hv,ht=>by
  obtain⟨v,vs,rfl,h1,h2⟩:=hv.dG;simp only[d9,jo] at h;obtain⟨c1,h⟩:=aI h;simp only[d9,fh];have:=TR.put (a:={ tmps:=tmps,defers:=[] }) ht (fK c1) h1;exact uc ps args vs n _ t1 _ h h2 this
def Me{b:Nat}{r:Loop}(hw:w.heap[b]?=some (.loop r))(hs:args.size=r.params.size):
 (Instr.yield b args).run P w=.ok (.round b r.fn ((r.params.zip args).foldl (λtmps (t,a)=>tmps.setIfInBounds t a) r.tmps) r.assign r.body) w:=by
 have:(args.size≠r.params.size)=False:=by simp[hs]
 simp only[Instr.yield,Instr.getLoop,ne,cw hw ge,pp,m9,this,if_false]
def xT{b:Nat}{r:Loop}(hw:w.heap[b]?=some (.loop r))(hs:r.state=.ready):
 (Instr.beginRound b).run P w=.ok () { w with heap:=w.heap.setIfInBounds b (.loop { r with state:=.busy }) }:=by
 simp only[Instr.beginRound,Instr.getLoop,ne,cw hw ge,pp,m9,eh hw ge,hs]
def CH{b:Nat}{r:Loop}(hw:w.heap[b]?=some (.loop r))(j:Option Code):
 (Instr.endRound b j).run P w=.ok (.bool j.isNone) { w with heap:=w.heap.setIfInBounds b (.loop { r with state:=if j.isNone then .ready else .done,pending:=j }) }:=by
 simp only[Instr.endRound,Instr.getLoop,ne,cw hw ge,pp,m9,eh hw ge]
def yr(a b j:Nat):bG (lor a b) j=(bG a j||bG b j):=Nat.testBit_or a b j
def HY(n j:Nat):bG (bit n) j=true↔n=j:=by
 unfold bG bit;rw[Nat.testBit_two_pow];simp
def Fh(j:Nat):bG 0 j=false:=Nat.zero_testBit j
def H8(acc:List Nat)(o:Oper):Nat:=o.after.toList.foldl (λm e=>cond (Region.binds .any e) (lor m (lor (bit e.on) (acc.getD e.on 0))) m) 0
def pI(o:Oper)(rest:List Oper)(acc:List Nat):mN (o::rest) acc=mN rest (acc++[H8 acc o]):=rfl
def E8{acc:List Nat}{j:Nat}:∀(l:List Edge) (m:Nat),bG (l.foldl (λm e=>cond (Region.binds .any e) (lor m (lor (bit e.on) (acc.getD e.on 0))) m) m) j=true->
 bG m j=true\/∃e∈l,Region.binds .any e=true/\(e.on=j\/bG (acc.getD e.on 0) j=true)
 | [],m,h=>.inl h
 | e::l,m,h=>by
  rw[fh] at h
  rcases E8 l _ h with h1 | ⟨e',h1,h2⟩
  ·cases hb:Region.binds .any e
   ·rw[hb,au] at h1;exact .inl h1
   ·rw[hb,ak,yr,yr,c5,c5] at h1
    rcases h1 with h1 | h1 | h1
    ·exact .inl h1
    ·exact .inr ⟨e,aj ..,hb,.inl ((HY _ _).1 h1)⟩
    ·exact .inr ⟨e,aj ..,hb,.inr h1⟩
  ·exact .inr ⟨e',ad _ h1,h2⟩
def vi:∀(rest:List Oper) (acc:List Nat) (i:Nat),i<acc.length->(mN rest acc).getD i 0=acc.getD i 0
 | [],acc,i,h=>rfl
 | o::rest,acc,i,h=>by
  rw[pI,vi rest _ i (by simp;omega)];rw[bi,bi,am h]
def FH:∀(rest:List Oper) (acc:List Nat) (k:Nat) (o:Oper),rest[k]?=some o->
 ∃acc':List Nat,(mN rest acc).getD (acc.length+k) 0=H8 acc' o/\∀j,j<acc.length+k->acc'.getD j 0=(mN rest acc).getD j 0
 | [],acc,k,o,h=>by simp at h
 | o'::rest,acc,0,o,h=>by
  simp only[ax,qr] at h;subst h;refine⟨acc,?_,λj hj=>(vi _ _ _ i4).symm⟩;rw[pI,vi rest _ _ ge];simp[bi]
 | o'::rest,acc,k+1,o,h=>by
  rw[ac] at h;obtain⟨acc',h1,h2⟩:=FH rest (acc++[H8 acc o']) k o h;simp only[li,List.length_singleton] at h1 h2;refine⟨acc',?_,λj hj=>?_⟩
  ·rw[pI,show acc.length+(k+1)=acc.length+1+k by omega];exact h1
  ·rw[pI];exact h2 j i4
def Ia{ops:List Oper}(ho:ops[i]?=some o)(hb:∀e∈o.after.toList,Region.binds .any e=true->e.on<i){j:Nat}(hj:bG ((mN ops []).getD i 0) j=true):
 ∃e∈o.after.toList,Region.binds .any e=true/\(e.on=j\/bG ((mN ops []).getD e.on 0) j=true):=by
 obtain⟨acc',h1,h2⟩:=FH ops [] i o ho;simp only[i5,b5] at h1 h2;rw[h1] at hj
 rcases E8 _ _ hj with h | ⟨e,he,hbind,h⟩
 ·rw[Fh] at h;cases h
 ·refine⟨e,he,hbind,?_⟩;rw[<-h2 e.on (hb e he hbind)];exact h
def jM{α:Type}:∀(l:List α) (k i:Nat),(cq k l)[i]?=(l[i]?).map λx=>(k+i,x)
 | [],k,i=>by simp[cq]
 | x::xs,k,0=>by simp[cq]
 | x::xs,k,i+1=>by
  simp only[cq,ac,jM xs (k+1) i];cases xs[i]?<;>simp;omega
def cut(a:Act)(l:List Tmp):Act:={ tmps:=Array.ofFn (n:=a.tmps.size) λj=>if j.1∈l then a.tmps[j.1] else undef,defers:=[] }
def Ib{t:Tmp}(h:Operand.tmp t∈o.op.operands):t∈tmpsOf o:=
 List.mem_filterMap.2 ⟨.tmp t,by simpa using h,rfl⟩
def left(listed:Array Bool)(L:Nat):Nat:=((bg L).filter λi=>!listed.getD i false).length
def filter_lt{α:Type}{p q:α->Bool}:∀(l:List α),(∀x∈l,q x=true->p x=true)->(∃x∈l,p x=true/\q x=false)->(l.filter q).length<(l.filter p).length
 | [],_,⟨x,hx,_⟩=>by simp at hx
 | y::l,h,⟨x,hx,hp,hq⟩=>by
  have hle:∀(l:List α),(∀x∈l,q x=true->p x=true)->(l.filter q).length<=(l.filter p).length:=by
   intro l
   induction l with
   | nil=>intro _;simp
   | cons z l ih=>
    intro h;have:=ih (λx hx=>h x (ad _ hx));have hz:=h z (aj ..);rw[b6,b6];cases hqz:q z
    ·cases hpz:p z<;>simp<;>omega
    ·rw[hz hqz];simp;omega
  have h':∀x∈l,q x=true->p x=true:=λx hx=>h x (ad _ hx);rw[b6,b6]
  rcases t7 hx with rfl | hx
  ·rw[hp,hq];have:=hle l h';simp;omega
  ·have:=filter_lt l h' ⟨x,hx,hp,hq⟩;have hy:=h y (aj ..);cases hqy:q y
   ·cases hpy:p y<;>simp<;>omega
   ·rw[hy hqy];simp;omega
open Go.RowKit
def Cj.mono{P:Program}{r:Result Next}{R R':Value->World->Prop}(h:Cj P r R)(hR:∀v w,R v w->R' v w):Cj P r R':=by
 cases r with
 | halt x w=>exact h.elim
 | ok x w=>
  cases x with
  | value v=>exact hR _ _ h
  | enter f args=>exact Calls.mono h λe w' ⟨v,he,hr⟩=>⟨v,he,hR _ _ hr⟩
  | round l f tmps a b=>exact λn=>RoundIn.mono (h n) λe w' ⟨v,he,hr⟩=>⟨v,he,hR _ _ hr⟩
  | _=>exact h.elim
def hz:H:={ aW:=.nil,dC:=.nil,next:=0,low:=0 }
def sq{w':World}(hr:HR σ h w)(hb:Below w.heap.size w w'):HR σ h w'/\Ext σ σ h h w w':=by
 refine⟨⟨λid o ho=>?_,hr.fresh,hr.sep,hr.bV,hr.C3⟩,⟨λ_ _ h=>h,ap _,hb.size,hb.os,hb.tape,hb.output,λid o p ho hp=>.inr ⟨id,o,p,ho,hp,rfl,λh=>h⟩,λb hlt _=>hb.block b hlt,ap _,λ_ _ _=>rfl,λ_ _ h=>h,λid cs _ ho=>.inr ⟨id,cs,ho⟩⟩⟩;obtain⟨p,hp,hor⟩:=hr.obj id o ho;exact⟨p,hp,by rw[hb.block _ (hr.lt ho hp)];exact hor⟩
def Mx(P:Program)(f:FuncId)(k:XK):Prop:=∀args h a h',xA k args h=some (a,h')->∀σ w (args':Array Value),VL σ args args'.toList->HR σ h w->Cj P ((callFunc f args').run P w) (Uu σ h w [(a,h')])
def SY{a:AV}(h:VL σ [a] args'.toList):∃x,args'=#[x]/\V σ a x:=by
 obtain⟨x,l,e,h1,h2⟩:=h.dG;have:=h2.pE;subst this;exact⟨x,ext' e,h1⟩
def EC{a b:AV}(h:VL σ [a,b] args'.toList):∃x y,args'=#[x,y]/\V σ a x/\V σ b y:=by
 obtain⟨x,l,e,h1,h2⟩:=h.dG;obtain⟨y,l,rfl,h3,h4⟩:=h2.dG;have:=h4.pE;subst this;exact⟨x,y,ext' e,h1,h3⟩
def AD(hng:sP P){f:FuncId}{fn:Func}(hf:P.funcs[f]?=some fn)(hb:fn.body.isSome=true){a:AV}{v:Value}(hr:HR σ h w)(hV:V σ a v)
 (hc:Calls P f args' w λe w'=>e=.returned v/\Below w.heap.size w w'):Cj P ((callFunc f args').run P w) (Uu σ h w [(a,h)]):=by
 rw[ec hng hf hb];refine Calls.mono hc λe w' ⟨he,hb⟩=>⟨v,he,a,h,rx rfl,σ,hV,?_⟩;exact sq hr hb
noncomputable section
def rv(h:H)(r:Option AV):R (Option AV×H):=r.map λx=>[(some x,h)]
def Te(fs:List Func):Bool:=fs.all λfn=>!(fn.body.isSome&&fn.name== "runtime.NumGoroutine")
def P6(h:Te P.funcs.toList=true):sP P:=by
 intro f fn hf hb
 have hm:fn∈P.funcs.toList:=by
  have h1:P.funcs.toList[f]?=some fn:=by rw[aa];exact hf
  exact cc h1
 have:=List.all_eq_true.1 h fn hm;rw[hb] at this;cases hn:fn.name== "runtime.NumGoroutine"
 ·rfl
 ·rw[hn] at this;simp at this
def idx_eq(c:Nat)(hc:c<256):∀(l:List UInt8) (i:Nat),fN c (l.map (·.toNat)) i=if Lib.indexByte l c.toUInt8 = -1 then -1 else Lib.indexByte l c.toUInt8+i
 | [],i=>rfl
 | b::l,i=>by
  have ih:=idx_eq c hc l (i+1);have hge:=Lib.indexByte_ge l c.toUInt8
  have he:Lib.indexByte (b::l) c.toUInt8=if b==c.toUInt8 then 0 else if Lib.indexByte l c.toUInt8 == -1 then -1 else Lib.indexByte l c.toUInt8+1:=rfl
  generalize Lib.indexByte (b::l) c.toUInt8=z at he;simp only[List.map_cons,fN]
  have hcc:(c.toUInt8).toNat=c:=by simp[Nat.toUInt8,UInt8.toNat_ofNat];omega
  cases hb:Nat.beq b.toNat c
  ·have hne:(b==c.toUInt8)=false:=by
    cases h:b==c.toUInt8
    ·rfl
    ·have e:=eq_of_beq h
     have:b.toNat=c:=by rw[e,hcc]
     rw[Mp this] at hb;cases hb
   rw[hne] at he;simp only[Bool.false_eq_true,if_false] at he;rw[au,ih];by_cases h1:Lib.indexByte l c.toUInt8 = -1
   ·have h2:(Lib.indexByte l c.toUInt8 == -1)=true:=by simpa using h1
    rw[h2] at he;simp only[if_true] at he;rw[ut h1,ut he]
   ·have h2:(Lib.indexByte l c.toUInt8 == -1)=false:=by simpa using h1
    rw[h2] at he;simp only[Bool.false_eq_true,if_false] at he;rw[v6 h1,v6 i4];omega
  ·have h:(b==c.toUInt8)=true:=by
    have e:=cU hb;have:b=c.toUInt8:=UInt8.toNat_inj.1 (by rw[hcc];exact e);rw[this];exact beq_self_eq_true _
   rw[h] at he;simp only[if_true] at he;rw[ak,he];simp
def Mx.indexByte{P:Program}{f:FuncId}(hrun:∀(x:ByteArray) (c:Int) (w:World),(callFunc f #[.string x,.int .u8 c]).run P w=.ok (.value (.int .i64 (Lib.indexByte x.data.toList c.toNat.toUInt8))) w):Mx P f .indexByte:=by
 intro args h a h' hx σ w args' hv hr
 have hshape:∃s c,args=[.str s,.int .u8 (.ofNat c)]/\blt c 256=true/\a=.int .i64 (fN c s 0)/\h'=h:=by
  unfold xA at hx
  split at hx<;>first
   | (obtain⟨h1,h2⟩:=aI hx;cases h2;exact⟨_,_,rfl,h1,rfl,rfl⟩)
   | simp_all
 obtain⟨s,c,rfl,hc,rfl,rfl⟩:=hshape;obtain⟨x,y,rfl,h1,h2⟩:=EC hv
 cases h1 with
 | @str _ sx hs=>
  cases h2;rw[hrun sx _ w,<-hs,idx_eq c (fK hc)];have e:(ofNat c).toNat=c:=rfl;rw[e]
  have:(if Lib.indexByte sx.data.toList c.toUInt8 = -1 then -1 else Lib.indexByte sx.data.toList c.toUInt8+((0:Nat):Int))=Lib.indexByte sx.data.toList c.toUInt8:=by
   split
   ·rename_i h;exact h.symm
   ·omega
  rw[this];exact⟨_,_,rx rfl,σ,.int _ _,hr,.refl _ _ _⟩
def Er(σ:Sg)(h:H)(w:World)(Q:AV->H->Prop)(v:Value)(w':World):Prop:=∃a h',Q a h'/\∃σ',V σ' a v/\HR σ' h' w'/\Ext σ σ' h h' w w'
def dZ(P:Program)(f:Fn)(args:List AV)(h:H)(Q:AV->H->Prop):Prop:=match f with
 | .func g=>∀σ w (args':Array Value),VL σ args args'.toList->HR σ h w->Cj P ((callFunc g args').run P w) (Er σ h w Q)
 | .yield id=>∀σ w p (args':Array Value),σ id=some p->VL σ args args'.toList->HR σ h w->Cj P ((Instr.yield p.b args').run P w) (Er σ h w Q)
 | _=>False
def Er.mono{Q Q':AV->H->Prop}{v:Value}{w':World}(hq:∀a h',Q a h'->Q' a h')(hg:Er σ h w Q v w'):Er σ h w Q' v w':=
 let ⟨a,h',h1,h2⟩:=hg;⟨a,h',hq _ _ h1,h2⟩
def dZ.mono{P:Program}{f:Fn}{args:List AV}{h:H}{Q Q':AV->H->Prop}(hc:dZ P f args h Q)(hq:∀a h',Q a h'->Q' a h'):dZ P f args h Q':=by
 cases f with
 | func g=>exact λσ w args' hv hr=>(hc σ w args' hv hr).mono λv w' hg=>hg.mono hq
 | yield id=>exact λσ w p args' hp hv hr=>(hc σ w p args' hp hv hr).mono λv w' hg=>hg.mono hq
 | _=>exact hc.elim
def Au(f:Nat->AV)(d:Nat)(v:AV):Nat->AV:=λi=>_root_.cond (beq i d) v (f i)
def Jm(f:Nat->AV)(d:Option Tmp)(v:AV):Nat->AV:=match d with
 | none=>f
 | some d=>Au f d v
def uD(f:Nat->AV)(d:Nat)(v:AV):Au f d v d=v:=by simp[Au]
def rM(f:Nat->AV)(v:AV)(h:i≠d):Au f d v i=f i:=by
 unfold Au;cases hb:beq i d
 ·rfl
 ·exact un (cU hb) h
noncomputable def ei(f:Nat->AV):Nat->Tr AV
 | 0=>.nil
 | n+1=>(ei f n).put n (some (f n))
def mZ(f:Nat->AV):∀(n i:Nat),i<n->(ei f n).get i=some (f i)
 | 0,i,h=>by omega
 | n+1,i,h=>by
  unfold ei;by_cases e:i=n
  ·subst e;rw[cZ]
  ·rw[bo _ _ e];exact mZ f n i i4
def zF(f:Nat->AV):∀(n i:Nat),n<=i->(ei f n).get i=none
 | 0,i,_=>get_nil i
 | n+1,i,h=>by
  unfold ei;rw[bo _ _ i4];exact zF f n i i4
variable{f:Nat->AV}
def RN(h:i<n):ev (ei f n) (.tmp i)=some (f i):=by
 simp only[ev,mZ f n i h]
def PG{t:Tr AV}{f:FuncId}:ev t (.func f)=some (.fn (.func f) [] []):=rfl
structure gZ where
 f:Nat->AV
 n:Nat
 h:H
 ds:List jv
def TF(σ:Sg)(f:Nat->AV)(n:Nat)(tmps:Array Value):Prop:=tmps.size=n/\∀i,i<n->V σ (f i) (tmps.getD i undef)
structure SF (σ:Sg) (st:gZ) (a:Act) (w:World):Prop where
 t:TF σ st.f st.n a.tmps
 h:HR σ st.h w
 ds:QV σ st.ds a.defers
def TF.mono{σ σ':Sg}(hle:∀id p,σ id=some p->σ' id=some p){f:Nat->AV}{n:Nat}{tmps:Array Value}(h:TF σ f n tmps):TF σ' f n tmps:=
 ⟨h.1,λi hi=>(h.2 i hi).mono hle⟩
def TF.tr{tmps:Array Value}(h:TF σ f n tmps):TR σ (ei f n) n tmps:=by
 refine⟨h.1,λi=>?_⟩
 rcases Nat.lt_or_ge i n with hi | hi
 ·rw[mZ f n i hi];exact h.2 i hi
 ·rw[zF f n i hi]
  have:tmps.getD i undef=undef:=by
   rw[ay,cN (by rw[h.1];exact hi)];rfl
  rw[this];exact V.lK
def TF.put{σ:Sg}{f:Nat->AV}{n:Nat}{a:Act}(h:TF σ f n a.tmps){d:Option Tmp}{x:AV}{v:Value}(hd:∀k,d=some k->k<n)(hv:V σ x v):TF σ (Jm f d x) n (a.put d v).tmps:=by
 cases d with
 | none=>exact h
 | some d=>
  have:=TR.put (a:=a) h.tr (hd d rfl) hv;refine⟨this.1,λi hi=>?_⟩;have h2:=this.2 i;by_cases e:i=d
  ·subst e;rw[cZ] at h2;rw[show Jm f (some i) x i=x from uD _ _ _];exact h2
  ·rw[bo _ _ e,mZ f n i hi] at h2;rw[show Jm f (some d) x i=f i from rM _ _ e];exact h2
variable{st:gZ}
def SF.sr{a:Act}(h:SF σ st a w):SR σ ⟨ei st.f st.n,st.n,st.h,st.ds⟩ a w:=⟨h.t.tr,h.h,h.ds⟩
def yc(d:Option Tmp)(n:Nat):Bool:=match d with
 | none=>true
 | some d=>blt d n
def M9{d:Option Tmp}(h:yc d n=true):∀k,d=some k->k<n:=by
 intro k e;subst e;exact fK h
def SF.put{σ σ':Sg}{f:Nat->AV}{n:Nat}{h h':H}{ds:List jv}{a:Act}{w w':World}(hs:SF σ ⟨f,n,h,ds⟩ a w)(hle:∀id p,σ id=some p->σ' id=some p){d:Option Tmp}(hd:yc d n=true){x:AV}{v:Value}(hv:V σ' x v)(hr:HR σ' h' w'):
 SF σ' ⟨Jm f d x,n,h',ds⟩ (a.put d v) w':=
 ⟨(hs.t.mono hle).put (M9 hd) hv,hr,by rw[put_defers];exact hs.ds.mono hle⟩
def Mm(P:Program)(ro:Option Nat)(o:Oper)(st:gZ)(K:gZ->Prop):Prop:=∀(F:Fence) (n:Nat) (σ:Sg) (a:Act) (w:World) (next:Act->World->Prop) (Q:Exit->Act->World->Prop),SF σ st a w->Ci σ ro F->
 (∀st' a' w' σ',K st'->SF σ' st' a' w'->Ext σ σ' st.h st'.h w w'->st'.n=st.n->next a' w')->o.wpIn F n P a w next Q
def tK:Op->Bool
 | .defer _=>false
 | _=>true
def leaves(f:Nat->AV)(n:Nat)(ds:List jv)(d:Option Tmp)(x:Option AV×H):gZ:=⟨Jm f d (match x.1 with | some v=>v | none=>lK),n,x.2,ds⟩
variable{ds:List jv}{K:gZ->Prop}
def Mm.run{m:Nat}(hnd:tK o.op=true)(hd:yc o.dst m=true)(ho:ew P (ei f m) h o.op=some outs)
 (hk:∀x∈outs,K (leaves f m ds o.dst x)):Mm P ro o ⟨f,m,h,ds⟩ K:=by
 intro F n σ a w next Q hs hF hnext
 refine⟨λf _=>hF.fn f,?_⟩;have hρ:=hs.sr.t.ev;have hsem:o.semAt F.round a.eval=execOp a.eval o:=Oper.semAt_eq _ _ _ (λc' hc'=>by rw[hc'] at hnd;simp[tK] at hnd);rw[hsem];obtain⟨r,h',hm,σ',x,w',hrun,hres,hh',hext⟩:=Qo (P:=P) hρ hs.h ho;rw[hrun];have hkk:=hk _ hm
 cases r with
 | some av=>
  obtain⟨v,rfl,hV⟩:=hres;exact hnext _ _ w' σ' hkk (hs.put hext.le hd hV hh') hext rfl
 | none=>
  have hres:x=.skip:=hres;subst hres;exact hnext _ _ w' σ' hkk (hs.put hext.le hd V.lK hh') hext rfl
def Mm.call{m:Nat}{c:Call}{g:Fn}{Q':AV->H->Prop}(hop:o.op=.call c)(hdy:fE (.call c)=true)(hd:yc o.dst m=true)(hc:pj P (ei f m) c=some (g,xs,cap))
 (hq:dZ P g (xs++cap) h Q') (hk:∀v h',Q' v h'->K ⟨Jm f o.dst v,m,h',ds⟩):Mm P ro o ⟨f,m,h,ds⟩ K:=by
 intro F n σ a w next Q hs hF hnext
 refine⟨λf _=>hF.fn f,?_⟩;have hρ:=hs.sr.t.ev;have hsem:o.semAt F.round a.eval=execOp a.eval o:=Oper.semAt_eq _ _ _ (λc' hc'=>by rw[hop] at hc';cases hc');rw[hsem]
 have hexec:(execOp a.eval o).run P w=((do let d <-resolve a.eval c o.type;invoke d.target d.args):Sem Next).run P w:=by
  cases c with
  | mk callee args ats=>cases callee with
   | builtin b=>simp[fE] at hdy
   | value g=>simp only[execOp,hop]
   | invoke r m=>simp only[execOp,hop]
 have fin:∀r,Cj P r (Er σ h w Q')->o.uponIn F n P a next Q r:=by
  intro r hf;refine QR hF hf ?_;rintro v w' ⟨av,h',hm,σ',hV,hh',hext⟩;exact hnext _ _ w' σ' (hk _ _ hm) (hs.put hext.le hd hV hh') hext rfl
 rw[hexec]
 rcases HA hc hρ o.type (w:=w) with⟨g,args',rfl,hv,he⟩ | ⟨id,p,args',rfl,hp,hv,he⟩ | ⟨h1,h2⟩
 ·rw[he];exact fin _ (hq _ _ _ hv hs.h)
 ·rw[he];exact fin _ (hq _ _ _ _ hp hv hs.h)
 ·cases g with
  | func g=>exact un rfl (h1 g)
  | yield id=>exact un rfl (h2 id)
  | _=>exact hq.elim
def jw(P:Program)(ro:Option Nat)(all l:List Oper)(st:gZ)(K:gZ->Prop):Prop:=∀(ops:Array Oper) (i:Nat),ops.toList=all->ops.toList.drop i=l->∀(F:Fence) (n:Nat) (σ:Sg) (a:Act) (w:World) (Q:Exit->Act->World->Prop),
 SF σ st a w->Ci σ ro F->(∀st' a' w' σ',K st'->SF σ' st' a' w'->Ext σ σ' st.h st'.h w w'->st'.n=st.n->Q .normal a' w')->wpOpsIn F n P ops Q (List.range' i l.length) a w
def jw.nil{all:List Oper}(h:K st):jw P ro all [] st K:=
 λ_ _ _ _ _ _ σ a w _ hs _ hQ=>hQ st a w σ h hs (.refl _ _ _) rfl
variable{l:List Oper}
def Bn{ops:Array Oper}(hd:ops.toList.drop i=o::l):ops[i]?=some o/\ops.toList.drop (i+1)=l:=by
 refine⟨?_,?_⟩
 ·rw[<-aa];have:=rc (λl=>l[0]?) hd;simpa using this
 ·have:=rc List.tail hd;simpa [List.tail_drop] using this
def kM(ops:List Oper)(f:Nat->AV)(n:Nat)(o:Oper):Option Bool:=match o.guard with
 | none=>some true
 | some (j,want)=>match (ops[j]?).bind (·.dst) with
  | some d=>_root_.cond (blt d n) (match f d with
   | .bool b=>some (b==want)
   | .cx []=>some false
   | _=>none) none
  | none=>none
def Ce{ops:List Oper}{b:Bool}(h:kM ops f n o=some b):uE ops (ei f n) n o=some b:=by
 unfold kM at h;unfold uE;split at h
 ·rename_i hg;rw[hg];exact h
 ·rename_i j want hg;rw[hg];simp only;split at h
  ·rename_i d hd;obtain⟨hlt,h2⟩:=aI h;rw[hd];simp only;rw[hlt,ak,mZ f n d (fK hlt)];split at h2
   ·rename_i x hx;rw[hx];exact h2
   ·rename_i hx;rw[hx];exact h2
   ·simp at h2
  ·simp at h
def jw.cons{all:List Oper}(hw:kM all st.f st.n o=some true)(h:Mm P ro o st (λst'=>jw P ro all l st' K)):jw P ro all (o::l) st K:=by
 intro ops i ha hdd F n σ a w Q hs hF hQ;obtain⟨hoi,hdr⟩:=Bn hdd;rw[i7,fb];simp only[wpOpsIn,hoi];have hwt:=Ar (by rw[ha];exact Ce hw) hs.t.tr;rw[hwt];simp only[if_true];refine h F n σ a w _ Q hs hF ?_;intro st' a' w' σ' hK hs' hE' hn';exact hK ops (i+1) ha hdr F n σ' a' w' Q hs' (hF.mono hE'.le) λst'' a'' w'' σ'' h1 h2 h3 h4=>hQ st'' a'' w'' σ'' h1 h2 (hE'.trans h3) (h4.trans hn')
def jw.skip{all:List Oper}{m:Nat}(hw:kM all f m o=some false)(hd:yc o.dst m=true)(hk:jw P ro all l ⟨Jm f o.dst lK,m,h,ds⟩ K):jw P ro all (o::l) ⟨f,m,h,ds⟩ K:=by
 intro ops i ha hdd F n σ a w Q hs hF hQ;obtain⟨hoi,hdr⟩:=Bn hdd;rw[i7,fb];simp only[wpOpsIn,hoi];have hwt:=Ar (by rw[ha];exact Ce hw) hs.t.tr;rw[hwt];simp only[ba,if_false];refine⟨λf _=>hF.fn f,?_⟩;exact hk ops (i+1) ha hdr F n σ _ w Q (hs.put (λ_ _ h=>h) hd V.lK hs.h) hF λst'' a'' w'' σ'' h1 h2 h3 h4=>hQ st'' a'' w'' σ'' h1 h2 h3 h4
def Bg(σ:Sg)(h:H)(w:World)(N:Nat)(Q:Ex->gZ->Prop):Exit->Act->World->Prop:=λe a' w'=>
 ∃ex st',Q ex st'/\U4 ex e/\∃σ',SF σ' st' a' w'/\Ext σ σ' h st'.h w w'/\st'.n=N
def lL(P:Program)(ro:Option Nat)(c:Code)(st:gZ)(Q:Ex->gZ->Prop):Prop:=∀(F:Fence) (n:Nat) (σ:Sg) (a:Act) (w:World),SF σ st a w->Ci σ ro F->c.wpIn F n P (Bg σ st.h w st.n Q) a w
def lL.wide{c:Code}{Q:Ex->gZ->Prop}(h:lL P ro c st Q){σ0:Sg}{a:Act}{w0:World}{h0:H}{N:Nat}(hs:SF σ st a w)(hF:Ci σ ro F)(hE:Ext σ0 σ h0 st.h w0 w)(hN:st.n=N):
 c.wpIn F n P (Bg σ0 h0 w0 N Q) a w:=
 wpIn_mono (h F n σ a w hs hF) λ_ _ _ ⟨ex,st',h1,h2,σ',h3,h4,h5⟩=>⟨ex,st',h1,h2,σ',h3,hE.trans h4,h5.trans hN⟩
def lL.mono{c:Code}{Q Q':Ex->gZ->Prop}(h:lL P ro c st Q)(hq:∀e x,Q e x->Q' e x):lL P ro c st Q':=
 λF n σ a w hs hF=>wpIn_mono (h F n σ a w hs hF) λ_ _ _ ⟨ex,st',h1,h2⟩=>⟨ex,st',hq _ _ h1,h2⟩
def lL.skip{P:Program}{ro:Option Nat}{st:gZ}{Q:Ex->gZ->Prop}(h:Q .normal st):lL P ro .skip st Q:=λ_ _ _ _ _ hs _=>wpIn_skip ⟨.normal,st,h,rfl,_,hs,.refl _ _ _,rfl⟩
def lL.exit{P:Program}{ro:Option Nat}{id:Nat}{st:gZ}{Q:Ex->gZ->Prop}(h:Q (.exit id) st):lL P ro (.exit id) st Q:=λ_ _ _ _ _ hs _=>wpIn_exit ⟨.exit id,st,h,rfl,_,hs,.refl _ _ _,rfl⟩
def lL.ret{P:Program}{ro:Option Nat}{st:gZ}{Q:Ex->gZ->Prop}(h:Q .ret st):lL P ro .ret st Q:=λ_ _ _ _ _ hs _=>wpIn_ret ⟨.ret,st,h,rfl,_,hs,.refl _ _ _,rfl⟩
def lL.region{P:Program}{ro:Option Nat}{id:Nat}{ops:Array Oper}{st:gZ}{Q:Ex->gZ->Prop}(h:jw P ro ops.toList ops.toList st (Q .normal)):lL P ro (.region id ops false) st Q:=by
 intro F n σ a w hs hF;refine wpIn_region ?_;have:=h ops 0 rfl rfl F n σ a w (Bg σ st.h w st.n Q) hs hF λst' a' w' σ' h1 h2 h3 h4=>⟨.normal,st',h1,rfl,σ',h2,h3,h4⟩;rw[List.range_eq_range'];simpa using this
def T4(P:Program)(ro:Option Nat)(y:Code)(Q:Ex->gZ->Prop):Ex->gZ->Prop
 | .normal,st=>lL P ro y st Q
 | e,st=>Q e st
def lL.seq{P:Program}{ro:Option Nat}{x y:Code}{st:gZ}{Q:Ex->gZ->Prop}(h:lL P ro x st (T4 P ro y Q)):lL P ro (.seq x y) st Q:=by
 intro F n σ a w hs hF;refine wpIn_seq (wpIn_mono (h F n σ a w hs hF) ?_);rintro e a' w' ⟨ex,st',hq,hex,σ',hs',hE',hn'⟩
 cases ex with
 | normal=>
  have:e=.normal:=hex;subst this;exact lL.wide (st:=st') hq hs' (hF.mono hE'.le) hE' hn'
 | ret=>
  have:e=.ret:=hex;subst this;exact⟨_,st',hq,rfl,σ',hs',hE',hn'⟩
 | exit id=>
  have:e=.exit id:=hex;subst this;exact⟨_,st',hq,rfl,σ',hs',hE',hn'⟩
 | goto l=>
  have:e=.goto l:=hex;subst this;exact⟨_,st',hq,rfl,σ',hs',hE',hn'⟩
def lL.cond{P:Program}{ro:Option Nat}{c:Operand}{x y:Code}{st:gZ}{Q:Ex->gZ->Prop}{b:Bool}(hc:ev (ei st.f st.n) c=some (.bool b))(h1:b=true->lL P ro x st Q)(h2:b=false->lL P ro y st Q):lL P ro (.cond c x y) st Q:=by
 intro F n σ a w hs hF;have hv:=hs.sr.t.ev _ _ hc;generalize hg:a.eval c=v at hv;cases hv;cases b
 ·exact wpIn_cond_false hg (h2 rfl F n σ a w hs hF)
 ·exact wpIn_cond_true hg (h1 rfl F n σ a w hs hF)
def Mr(id:Nat)(Q:Ex->gZ->Prop):Ex->gZ->Prop
 | .exit i,st=>if i=id then Q .normal st else Q (.exit i) st
 | e,st=>Q e st
def lL.block{P:Program}{ro:Option Nat}{id:Nat}{x:Code}{st:gZ}{Q:Ex->gZ->Prop}(h:lL P ro x st (Mr id Q)):lL P ro (.block id x) st Q:=by
 intro F n σ a w hs hF;refine wpIn_block (wpIn_mono (h F n σ a w hs hF) ?_);rintro e a' w' ⟨ex,st',hq,hex,σ',hs',hE',hn'⟩
 cases ex with
 | normal=>
  have:e=.normal:=hex;subst this;exact⟨_,st',hq,rfl,σ',hs',hE',hn'⟩
 | ret=>
  have:e=.ret:=hex;subst this;exact⟨_,st',hq,rfl,σ',hs',hE',hn'⟩
 | goto l=>
  have:e=.goto l:=hex;subst this;exact⟨_,st',hq,rfl,σ',hs',hE',hn'⟩
 | exit id'=>
  have:e=.exit id':=hex;subst this;simp only[Exit.inBlock];simp only[Mr] at hq;by_cases hb:id'=id
  ·rw[ut hb] at hq ⊢;exact⟨_,st',hq,rfl,σ',hs',hE',hn'⟩
  ·rw[v6 hb] at hq ⊢;exact⟨_,st',hq,rfl,σ',hs',hE',hn'⟩
def r7{F:Fence}{n:Nat}{P:Program}{c:Code}{Q:Exit->Act->World->Prop}:∀{k m:Nat},k<=m->∀{a:Act} {w:World},Code.roundsIn F n P c Q k a w->Code.roundsIn F n P c Q m a w
 | 0,_,_,_,_,h=>h.elim
 | k+1,0,hk,_,_,_=>by omega
 | k+1,m+1,hk,a,w,h=>by
  rw[roundsIn_succ] at h ⊢;refine wpIn_mono h λe a w hq=>?_
  cases e with
  | normal=>exact r7 i4 hq
  | _=>exact hq
def Round(I:Nat->gZ->Prop)(m:Nat)(Q:Ex->gZ->Prop):Ex->gZ->Prop
 | .normal,st=>∃k,k<m/\I k st
 | e,st=>Q e st
def lL.loop{P:Program}{ro:Option Nat}{x:Code}{st:gZ}{Q:Ex->gZ->Prop}(I:Nat->gZ->Prop)(m:Nat)(h0:I m st)(h:∀m st,I m st->lL P ro x st (Round I m Q)):lL P ro (.loop x) st Q:=by
 intro F n σ a w hs hF
 have key:∀(m:Nat) (st1:gZ),I m st1->st1.n=st.n->∀(σ1:Sg) (a1:Act) (w1:World),SF σ1 st1 a1 w1->Ext σ σ1 st.h st1.h w w1->Code.roundsIn F n P x (Bg σ st.h w st.n Q) (m+1) a1 w1:=by
  intro m
  induction m using Nat.strongRecOn with
  | _ m ih=>
   intro st1 hI hn1 σ1 a1 w1 hs1 hE1;rw[roundsIn_succ];refine wpIn_mono (lL.wide (h m st1 hI) hs1 (hF.mono hE1.le) hE1 hn1) ?_;rintro e a' w' ⟨ex,st',hq,hex,σ',hs',hE',hn'⟩
   cases ex with
   | normal=>
    have:e=.normal:=hex;subst this;obtain⟨k,hk,hI'⟩:=hq;exact r7 i4 (ih k hk st' hI' hn' σ' a' w' hs' hE')
   | ret=>
    have:e=.ret:=hex;subst this;exact⟨_,st',hq,rfl,σ',hs',hE',hn'⟩
   | goto l=>
    have:e=.goto l:=hex;subst this;exact⟨_,st',hq,rfl,σ',hs',hE',hn'⟩
   | exit id'=>
    have:e=.exit id':=hex;subst this;exact⟨_,st',hq,rfl,σ',hs',hE',hn'⟩
 exact wpIn_loop_rounds (m+1) (key m st h0 rfl σ a w hs (.refl _ _ _))
def rN(args:List AV):Nat->AV:=λi=>match args[i]? with
 | some v=>v
 | none=>lK
def Js{args:List AV}(h:VL σ args args'.toList)(nt:Nat):TF σ (rN args) (args.length+(nt-args.length)) (args'++fu (nt-args'.size) undef):=by
 have ht:=Nd h nt;refine⟨ht.1,λi hi=>?_⟩;have:=ht.2 i;rw[sn] at this;unfold rN;by_cases hl:i<args.length
 ·rw[ut i4] at this;rw[ey] at this
  cases hx:args[i]? with
  | none=>rw[List.getElem?_eq_none_iff] at hx;omega
  | some v=>rw[hx] at this;exact this
 ·rw[v6 i4,get_nil] at this;rw[bb i4];exact this
theorem jw.v{all:List Oper}{op:Op}{v:AV}(hop:o.op=op)(hdst:o.dst=some d)(hw:kM all f n o=some true)(hnd:tK op=true)(hd:blt d n=true)
 (ho:ew P (ei f n) h op=some [(some v,h')]) (hk:jw P ro all l ⟨Au f d v,n,h',ds⟩ K):jw P ro all (o::l) ⟨f,n,h,ds⟩ K:=by
 refine .cons hw (.run (by rw[hop];exact hnd) (by rw[hdst];exact hd) (by rw[hop];exact ho) ?_);intro x hx;rw[t6 hx,hdst];exact hk
theorem jw.s{all:List Oper}(hdst:o.dst=some d)(hw:kM all f n o=some false)(hd:blt d n=true)
 (hk:jw P ro all l ⟨Au f d lK,n,h,ds⟩ K):jw P ro all (o::l) ⟨f,n,h,ds⟩ K:=by
 refine .skip hw (by rw[hdst];exact hd) ?_;rw[hdst];exact hk
theorem jw.c{all:List Oper}{c:Call}{g:Fn}{ys:List AV}{Q:AV->H->Prop}(hop:o.op=.call c)(hdst:o.dst=some d)(hw:kM all f n o=some true)(hdy:fE (.call c)=true)(hd:blt d n=true)
 (hc:pj P (ei f n) c=some (g,xs,cap)) (hys:xs++cap=ys) (hq:dZ P g ys h Q) (hk:∀v h',Q v h'->jw P ro all l ⟨Au f d v,n,h',ds⟩ K):jw P ro all (o::l) ⟨f,n,h,ds⟩ K:=by
 subst hys;refine .cons hw (.call hop hdy (by rw[hdst];exact hd) hc hq ?_);intro v h' hv;rw[hdst];exact hk v h' hv
def gq(a b:Int):uG a b=decide (a<=b):=by
 unfold uG
 rcases hb:b-a with m | m
 ·have h2:b-a=(m:Int):=hb
  have:a<=b:=by omega
  simp[this]
 ·have h2:b-a = -((m:Int)+1):=by rw[hb,Int.negSucc_eq]
  have:¬a<=b:=by omega
  simp[this]
def not_le(a b:Int):(!decide (a<=b))=decide (b<a):=by
 by_cases h:a<=b
 ·have:¬b<a:=by omega
  simp[h,this]
 ·have:b<a:=by omega
  simp[h,this]
def sv(a b:Int):PF a b=decide (a=b):=by
 unfold PF;rw[gq,gq];by_cases h:a=b
 ·subst h;simp
 ·have:¬(a<=b/\b<=a):=by omega
  simp only[h,decide_false];by_cases h1:a<=b
  ·have:¬b<=a:=by omega
   simp[this]
  ·simp[h1]
def ly:∀(a b:List Nat),uS a b=decide (a=b)
 | [],[]=>rfl
 | [],_::_=>rfl
 | _::_,[]=>rfl
 | x::a,y::b=>by
  have:=ly a b;simp only[uS,this];by_cases h:x=y
  ·subst h;simp
  ·have:beq x y=false:=by
    cases hb:beq x y
    ·rfl
    ·exact un (cU hb) h
   simp[this,h]
def Jx{P:Program}{t:TypeId}{a b:Int}{k:IntKind}(hk:AI k k=true):dk P .lss t (.int k a) (.int k b)=some (.bool (decide (a<b))):=by
 simp only[dk,hk,ak,CB,gq,not_le]
def Cv{P:Program}{t:TypeId}{a b:Int}{k:IntKind}(hk:AI k k=true):dk P .leq t (.int k a) (.int k b)=some (.bool (decide (a<=b))):=by
 simp only[dk,hk,ak,CB,gq]
def Jw{P:Program}{t:TypeId}{a b:Int}{k:IntKind}(hk:AI k k=true):dk P .gtr t (.int k a) (.int k b)=some (.bool (decide (b<a))):=by
 simp only[dk,hk,ak,CB,gq,not_le]
def Jv{P:Program}{t:TypeId}{a b:Int}{k:IntKind}(hk:AI k k=true):dk P .geq t (.int k a) (.int k b)=some (.bool (decide (b<=a))):=by
 simp only[dk,hk,ak,CB,gq]
def Cu{P:Program}{t:TypeId}{a b:Int}{k:IntKind}(hk:AI k k=true):dk P .eql t (.int k a) (.int k b)=some (.bool (decide (a=b))):=by
 simp only[dk,hk,ak,CB,sv]
def sW{P:Program}{t:TypeId}{a b:Int}{k:IntKind}(hk:AI k k=true):dk P .neq t (.int k a) (.int k b)=some (.bool (!decide (a=b))):=by
 simp only[dk,hk,ak,CB,sv]
def xh{a b:Int}(h : -9223372036854775808<=a+b/\a+b<=9223372036854775807):dk P .add t (.int .i64 a) (.int .i64 b)=some (.int .i64 (a+b)):=by
 have h1:(uG (-9223372036854775808) (a+b)&&uG (a+b) 9223372036854775807)=true:=by
  rw[gq,gq];simp[h.1,h.2]
 simp only[dk,AI,ak,dX,P0,PO,h1]
def Jy{a b:Int}(h : -9223372036854775808<=a-b/\a-b<=9223372036854775807):dk P .sub t (.int .i64 a) (.int .i64 b)=some (.int .i64 (a-b)):=by
 have h1:(uG (-9223372036854775808) (a-b)&&uG (a-b) 9223372036854775807)=true:=by
  rw[gq,gq];simp[h.1,h.2]
 simp only[dk,AI,ak,dX,P0,PO,h1]
def MK{P:Program}{t:TypeId}{a b:List Nat}:dk P .eql t (.str a) (.str b)=some (.bool (decide (a=b))):=by
 simp only[dk,ly]
def MO{P:Program}{t:TypeId}{a b:List Nat}:dk P .neq t (.str a) (.str b)=some (.bool (!decide (a=b))):=by
 simp only[dk,ly]
def MN{P:Program}{t:TypeId}{a b:List Nat}:dk P .lss t (.str a) (.str b)=some (.bool (gC a b)):=rfl
def ML{P:Program}{t:TypeId}{a b:List Nat}:dk P .gtr t (.str a) (.str b)=some (.bool (!(gC a b||uS a b))):=rfl
def xV{P:Program}{t:TypeId}{a b:List Nat}:dk P .geq t (.str a) (.str b)=some (.bool (!gC a b)):=rfl
def MM{P:Program}{t:TypeId}{a b:List Nat}:dk P .leq t (.str a) (.str b)=some (.bool (gC a b||uS a b)):=rfl
def BC:AI .i64 .i64=true:=rfl
def Lg:AI .u8 .u8=true:=rfl
section
variable {P:Program} {t:Tr AV} {h:H}
variable{x:Operand}
def Qv:ew P t h (.move x)=(ev t x).map λv=>[(some v,h)]:=rfl
def Ly:ew P t h (.assign x)=(ev t x).map λv=>[(some v,h)]:=rfl
noncomputable def Od(c a b:Option AV):Option AV:=match c,a,b with
 | some (.bool z),some x,some y=>some (_root_.cond z x y)
 | _,_,_=>none
def Qw{c a b:Operand}:ew P t h (.pick c a b)=(Od (ev t c) (ev t a) (ev t b)).map λv=>[(some v,h)]:=by
 simp only[ew];unfold Od;cases ha:ev t a<;>cases hb:ev t b<;>cases hc:ev t c<;>(try rfl)
 ·rename_i z;cases z<;>rfl
 ·rename_i z;cases z<;>rfl
 ·rename_i z;cases z<;>rfl
 ·rename_i z;cases z<;>(try rfl);rename_i b;cases b<;>rfl
def N3{e:TypeId}:ew P t h (.alloc e)=(dm P e).map λz=>[(some (.ptr (some (h.next,0))),{ h.lay h.next (.cells z.cells h.next) with next:=h.next+1 })]:=by
 simp only[ew,pc];cases dm P e<;>rfl
def Sc{e:TypeId}:ew P t h (.box e x)=(ev t x).map λv=>[(some (.ptr (some (h.next,0))),{ h.lay h.next (.cells v.cells h.next) with next:=h.next+1 })]:=by
 simp only[ew,pc];cases ev t x<;>rfl
variable{tt:TypeId}
def Io:ew P t h (.makeMap tt none)=some [(some (.map (some h.next)),{ h.lay h.next (.map [] 0) with next:=h.next+1 })]:=rfl
variable{ps:Array (Nat×Operand)}
def AM:ew P t h (.buildSlice tt n ps)=((lF t ps.toList).bind λps=>(gH P tt n ps).map λq=>((.slice (some (h.next,0)) n q.1 (some n),.cells q.2 h.next):AV×AO)).map λx=>[(some x.1,{ h.lay h.next x.2 with next:=h.next+1 })]:=by
 simp only[ew,pc]
 cases hp:lF t ps.toList with
 | none=>rfl
 | some l=>cases hb:gH P tt n l<;>simp[hb]
def N5:ew P t h (.build tt ps)=((lF t ps.toList).bind λps=>uN P tt ps).map λv=>[(some v,h)]:=rfl
noncomputable def C2(P:Program)(h:H)(tt:TypeId):Option AV->Option AV
 | some (.ptr (some (id,off)))=>h.load P tt id off
 | _=>none
def Qt{a:Operand}:ew P t h (.load tt a)=(C2 P h tt (ev t a)).map λv=>[(some v,h)]:=by
 simp only[ew]
 cases ev t a with
 | none=>rfl
 | some v=>cases v<;>(try rfl);rename_i o;rcases o with _ | ⟨id,off⟩<;>rfl
def BI{off:Nat}:C2 P h tt (some (.ptr (some (id,off))))=h.load P tt id off:=rfl
noncomputable def Du(P:Program)(h:H)(tt:TypeId):Option AV->Option AV->Option H
 | some (.ptr (some (id,off))),some x=>h.storeVar P tt id off x
 | _,_=>none
def Ob{a:Operand}:ew P t h (.store tt a x)=(Du P h tt (ev t a) (ev t x)).map λh=>[(none,h)]:=by
 simp only[ew]
 cases ev t a with
 | none=>rfl
 | some v=>cases v<;>(try rfl);rename_i o;rcases o with _ | ⟨id,off⟩<;>(try rfl);cases ev t x<;>rfl
def Iz{off:Nat}{x:AV}:Du P h tt (some (.ptr (some (id,off)))) (some x)=h.storeVar P tt id off x:=rfl
variable{xt:TypeId}
def N4{op:BinOp}{yt:TypeId}{y:Operand}:ew P t h (.binOp op xt x y yt)=((ev t x).bind λx=>(ev t y).bind λy=>dk P op xt x y).map λv=>[(some v,h)]:=rfl
def Tf{op:UnOp}:ew P t h (.unOp op xt x)=((ev t x).bind (Sw op)).map λv=>[(some v,h)]:=rfl
def Sx{b:Bool}:Sw .not (.bool b)=some (.bool (!b)):=rfl
def Qp{s d:TypeId}:ew P t h (.convert s d x)=((ev t x).bind (mF P s d)).map λv=>[(some v,h)]:=rfl
def Dd{s:TypeId}{f:Nat}:ew P t h (.fieldAddr s x f)=((ev t x).bind λx=>jh P s x f).map λv=>[(some v,h)]:=rfl
def N6{s:TypeId}{f:Nat}:ew P t h (.field s x f)=((ev t x).bind λx=>uU P s x f).map λv=>[(some v,h)]:=rfl
def De{s:TypeId}{i:Operand}:ew P t h (.indexAddr s x i)=((ev t x).bind λx=>(ev t i).bind λi=>kh P s x i).map λv=>[(some v,h)]:=rfl
def N8{s:TypeId}{i:Operand}:ew P t h (.index s x i)=((ev t x).bind λx=>(ev t i).bind λi=>u7 P s x i).map λv=>[(some v,h)]:=rfl
def N9{lo hi mx:Option Operand}:ew P t h (.slice tt x lo hi mx)=((ev t x).bind λx=>(Ni t lo).bind λlo=>(Ni t hi).bind λhi=>(Ni t mx).bind λmx=>vx P h tt x lo hi mx).map λv=>[(some v,h)]:=rfl
def Lz{k:Operand}{ok:Bool}:ew P t h (.lookup tt x k ok)=((ev t x).bind λx=>(ev t k).bind λk=>rq P h tt x k ok).map λv=>[(some v,h)]:=rfl
def Df{m k:Operand}:ew P t h (.mapUpdate tt m k x)=((ev t m).bind λm=>(ev t k).bind λk=>(ev t x).bind λx=>ko P h tt m k x).map λh=>[(none,h)]:=rfl
def FW:ew P t h (.range tt x)=((ev t x).bind λx=>vt P h tt x).map λx=>[(some x.1,x.2)]:=rfl
def FV:ew P t h (.entry x)=((ev t x).bind λx=>uR h x).map λv=>[(some v,h)]:=rfl
noncomputable def Bp(i:Nat):Option AV->Option AV
 | some (.cx vs)=>vs[i]?
 | _=>none
def Im:ew P t h (.extract x i)=(Bp i (ev t x)).map λv=>[(some v,h)]:=by
 simp only[ew]
 cases ev t x with
 | none=>rfl
 | some v=>cases v<;>rfl
def N7{d:TypeDesc}(hd:P.underlying xt=some d)(hi:(match d with | .interface _=>false | _=>true)=true):ew P t h (.makeInterface xt x)=(ev t x).map λv=>[(some (.iface xt v),h)]:=by
 simp only[ew,hd]
 cases d<;>first | (simp at hi;done) | (cases ev t x<;>rfl)
def Qq{g:FuncId}{first cap:Array Operand}:ew P t h (.makeFunc (.func g) first cap)=((AA t first.toList).bind λa=>(AA t cap.toList).map λb=>AV.fn (.func g) a b).map λv=>[(some v,h)]:=rfl
def Il{b:Builtin}{aS:Array Operand}:ew P t h (.call { callee:=.builtin b,args:=aS,argTypes:=ats })=((AA t aS.toList).bind λxs=>mD P h b ats.toList xs).map λx=>[(some x.1,x.2)]:=rfl
def C1(hu:P.underlying tt=some .string){s:List Nat}:Fx P h tt (.str s)=some (.int .i64 (s.length:Int)):=by
 simp only[Fx,hu,m6,Int.ofNat_eq_natCast]
end
def Nj(t:Tr AV)(x:Operand)(l:List Operand):AA t (x::l)=(ev t x).bind λa=>(AA t l).map λb=>a::b:=by
 simp only[AA,cv]
 cases ev t x with
 | none=>rfl
 | some a=>cases h:mapM (ev t) l<;>simp_all
def F2(t:Tr AV)(i:Nat)(x:Operand)(l:List (Nat×Operand)):lF t ((i,x)::l)=(ev t x).bind λa=>(lF t l).map λb=>(i,a)::b:=by
 simp only[lF,cv]
 cases ev t x with
 | none=>rfl
 | some a=>cases h:mapM (λp:Nat×Operand=>Option.map (λv=>(p.1,v)) (ev t p.2)) l<;>simp_all
def q0(a b:Nat):decide ((a:Int)<=(b:Int))=ble a b:=by
 by_cases h:a<=b
 ·have:(a:Int)<=b:=by omega
  simp[this,fc h]
 ·have h2:¬(a:Int)<=b:=by omega
  have:ble a b=false:=by
   cases hb:ble a b
   ·rfl
   ·exact un (jg hb) h
  simp[h2,this]
noncomputable def TV:Option AV->AV
 | some v=>v
 | none=>lK
structure Dq where
 f:Nat->AV
 c:H
 xs:List (Nat×AO)
 al:List (Nat×AO)
 m:Nat
 cs:List (Nat×Nat×H)
 rd:List (Nat×(H->R (Option AV×H))×AV)
def Ui:AO->Option (List AV)
 | .cells cs _=>some cs
 | .ro cs=>some cs
 | _=>none
def rS(o:Tr AO)(id:Nat):Option (List AV):=(o.get id).bind Ui
def lq(cs:List AV)(off n:Nat):Option (List AV):=cond (ble (off+n) cs.length) (some ((cs.drop off).take n)) none
section
variable {P:Program} {h:H}
def mi{off:Nat}:h.chunk id off n=(rS h.aW id).bind λcs=>lq cs off n:=by
 unfold H.chunk rS
 cases h.aW.get id with
 | none=>rfl
 | some o=>cases o<;>rfl
end
def pw{s:Nat}:∀{rows:List (List AV)},(∀r∈rows,r.length=s)->∀{i:Nat} {r:List AV},rows[i]?=some r->∀{k:Nat},k<s->rows.flatten[i*s+k]?=r[k]?
 | [],_,i,r,hi,k,_=>by simp at hi
 | a::rows,hw,0,r,hi,k,hk=>by
  simp at hi;subst hi;have:=hw a (aj ..);rw[bc,Nat.zero_mul,b5,am i4]
 | a::rows,hw,i+1,r,hi,k,hk=>by
  rw[ac] at hi;have ha:=hw a (aj ..);have ih:=pw (λr hr=>hw r (ad _ hr)) hi hk;rw[bc,a9 (by rw[ha,ci];omega),ha];rw[show(i+1)*s+k-s=i*s+k by rw[ci];omega];exact ih
def jE{s:Nat}:∀{rows:List (List AV)},(∀r∈rows,r.length=s)->rows.flatten.length=rows.length*s
 | [],_=>by simp
 | a::rows,hw=>by
  have ha:=hw a (aj ..);have ih:=jE (λr hr=>hw r (ad _ hr));rw[bc,li,ih,ha,i7,ci];omega
def NA{l:List α}{x:α}(h:l[i]?=some x):i<l.length:=(rt h).1
def Bo(n:Nat)(s:List Nat):gL (n+1) (.str s) (.str s)=true:=by
 simp only[gL,ly,decide_true]
def K3(n:Nat)(k:IntKind)(i:Int):gL (n+1) (.int k i) (.int k i)=true:=by
 simp only[gL,sv,decide_true,Bool.and_true];cases k<;>rfl
def HN(n:Nat)(b:Bool):gL (n+1) (.bool b) (.bool b)=true:=by
 simp only[gL,beq_self_eq_true]
def K2(n:Nat)(l:List AV)(h:fJ (gL n) l l=true):gL (n+1) (.agg l) (.agg l)=true:=h
def vk{a b:Nat}(h:a<=b):gR a b=a:=by unfold gR;rw[fc h,ak]
def dZ.Ue{g:FuncId}{k:XK}(hx:Mx P g k){args:List AV}{a:AV}(ha:xA k args h=some (a,h')):dZ P (.func g) args h (λa' h''=>a'=a/\h''=h'):=
 λσ w args' hv hr=>(hx args h a h' ha σ w args' hv hr).mono λv w' ⟨a',h'',hm,hg⟩=>⟨a',h'',by simpa using hm,hg⟩
def KO(l:List AV):AV.cells (.agg l)=l:=rfl
section
variable {K U:Type} [DecidableEq K]
def vq(k:K):List (K×U)->Nat->Option Nat
 | [],_=>none
 | e::l,j=>if k=e.1 then some j else vq k l (j+1)
def getM(u0:U)(k:K):List (K×U)->U
 | []=>u0
 | e::l=>if k=e.1 then e.2 else getM u0 k l
def dF(k:K)(l:List (K×U)):Bool:=l.any λe=>decide (k=e.1)
def cy(k:K)(v:U):List (K×U)->List (K×U)
 | []=>[(k,v)]
 | e::l=>if k=e.1 then (k,v)::l else e::cy k v l
def rD{k:K}:∀{l:List (K×U)} {j:Nat},vq k l j=none->dF k l=false
 | [],_,_=>rfl
 | e::l,j,h=>by
  unfold vq at h;split at h
  ·cases h
  ·rename_i hne;have:=rD h;simp only[dF,bw,hne,decide_false,Bool.false_or] at this ⊢;exact this
def oO{k:K}:∀{l:List (K×U)} {j i:Nat},vq k l j=some i->j<=i/\∃u,l[i-j]?=some (k,u)/\(∀u0,getM u0 k l=u)/\(∀v,cy k v l=l.set (i-j) (k,v))/\dF k l=true
 | [],_,_,h=>by cases h
 | e::l,j,i,h=>by
  unfold vq at h;split at h
  ·rename_i he;cases h;refine⟨Nat.le_refl _,e.2,?_,λu0=>?_,λv=>?_,?_⟩
   ·rw[Nat.sub_self,List.getElem?_cons_zero];rw[he]
   ·simp only[getM,he,if_true]
   ·rw[Nat.sub_self];simp only[cy,he,if_true,List.set_cons_zero]
   ·simp only[dF,List.any_cons,he,decide_true,Bool.true_or]
  ·rename_i hne;obtain⟨h1,u,h2,h3,h4,h5⟩:=oO h
   have e1:i-j=(i-(j+1))+1:=by omega
   refine⟨by omega,u,?_,λu0=>?_,λv=>?_,?_⟩
   ·rw[e1,List.getElem?_cons_succ];exact h2
   ·simp only[getM,hne,if_false];exact h3 u0
   ·rw[e1];simp only[cy,hne,if_false,List.set_cons_succ];rw[h4]
   ·simp only[dF,List.any_cons] at h5 ⊢;rw[h5,Bool.or_true]
def yq{u0:U}{k:K}:∀{l:List (K×U)},dF k l=false->getM u0 k l=u0
 | [],_=>rfl
 | e::l,h=>by
  simp only[dF,bw,br,wn] at h;unfold getM;rw[v6 h.1];exact yq h.2
def qH{k:K}{v:U}:∀{l:List (K×U)},dF k l=false->cy k v l=l++[(k,v)]
 | [],_=>rfl
 | e::l,h=>by
  simp only[dF,bw,br,wn] at h;unfold cy;rw[v6 h.1,qH h.2];rfl
def qv(u0:U)(k k':K)(v:U):∀(l:List (K×U)),getM u0 k' (cy k v l)=if k'=k then v else getM u0 k' l
 | []=>by simp only[cy,getM]
 | e::l=>by
  unfold cy;by_cases h:k=e.1
  ·rw[ut h];unfold getM;by_cases h2:k'=k
   ·rw[ut h2,ut h2]
   ·rw[v6 h2,v6 h2,v6 (by rw[<-h];exact h2)]
  ·rw[v6 h];unfold getM;by_cases h2:k'=e.1
   ·rw[ut h2,ut h2,v6 (λe2=>h (e2.symm.trans h2))]
   ·rw[v6 h2,v6 h2];exact qv u0 k k' v l
def qx(k k':K)(v:U):∀(l:List (K×U)),dF k' (cy k v l)=(decide (k'=k)||dF k' l)
 | []=>by simp[cy,dF]
 | e::l=>by
  have ih:=qx k k' v l;unfold cy;by_cases h:k=e.1
  ·rw[ut h];simp only[dF,bw,h,<-ef,Bool.or_self]
  ·rw[v6 h];simp only[dF,bw] at ih ⊢;rw[ih,<-ef,<-ef,Bool.or_comm (decide (k'=e.1))]
def kV{k:K}{l:List (K×U)}:dF k l=true↔k∈l.map (·.1):=by
 simp only[dF,List.any_eq_true,wp,mem_map];exact⟨λ⟨x,h1,h2⟩=>⟨x,h1,h2.symm⟩,λ⟨x,h1,h2⟩=>⟨x,h1,h2.symm⟩⟩
structure Keys (P:Program) (kt:TypeId) (kv:K->AV):Prop where
 eq:∀a b,lu P 4 kt (kv a) (kv b)=some (decide (a=b))
 ck:∀a,wK P kt (kv a)=true
 st:∀a,stays (kv a) (kv a)=true
end
end
end Go.Ev

namespace Go.Ev
noncomputable section
theorem jw.n{P:Program}{ro:Option Nat}{all:List Oper}{o:Oper}{l:List Oper}{f:Nat->AV}{n:Nat}{h:H}{ds:List jv}{K:gZ->Prop}{d:Nat}{op:Op}{outs:List (Option AV×H)}(hop:o.op=op)(hdst:o.dst=some d)(hw:kM all f n o=some true)(hnd:tK op=true)(hd:blt d n=true)
 (ho:ew P (ei f n) h op=some outs) (hk:∀x∈outs,jw P ro all l ⟨Au f d (TV x.1),n,x.2,ds⟩ K):jw P ro all (o::l) ⟨f,n,h,ds⟩ K:=by
 refine .cons hw (.run (by rw[hop];exact hnd) (by rw[hdst];exact hd) (by rw[hop];exact ho) ?_);intro x hx;have:=hk x hx;rw[hdst];obtain⟨v,h'⟩:=x;cases v<;>exact this
variable{a:AV}
def J1{P:Program}{t:Tr AV}{h:H}{it:Operand}{s:Bool}(ha:ev t it=some a):ew P t h (.next it s)=(yS h a s).map λl=>l.map λx=>(some x.1,x.2):=by
 simp only[ew,ha]
section
variable {K U:Type} [DecidableEq K] {kv:K->AV} {uv:U->AV}
def bn(l:List (K×U))(seen:List Nat):List (K×U):=seen.filterMap λi=>l[i]?
omit [DecidableEq K] in
def mJ{l:List (K×U)}{seen:List Nat}(hn:seen.Nodup)(hl:∀i∈seen,i<l.length)(ha:∀i,i<l.length->i∈seen):(bn l seen).Perm l:=by
 have hp:seen.Perm (bg l.length):=by
  refine(List.perm_ext_iff_of_nodup hn List.nodup_range).2 λi=>?_;rw[mem_range];exact⟨hl i,ha i⟩
 have h2:(bg l.length).filterMap (λi=>l[i]?)=l:=by
  apply List.ext_getElem?;intro j
  have:(bg l.length).filterMap (λi=>l[i]?)=(bg l.length).attach.map λx=>l[x.1]'(mem_range.1 x.2):=by
   have:∀(r:List Nat) (hr:∀i∈r,i<l.length),r.filterMap (λi=>l[i]?)=r.attach.map λx=>l[x.1]'(hr x.1 x.2):=by
    intro r hr
    induction r with
    | nil=>rfl
    | cons a r ih=>
     have ha:=hr a (aj ..);rw[List.filterMap_cons,jp ha];simp only[List.attach_cons,ce,List.map_map];rw[ih λi hi=>hr i (ad _ hi)];rfl
   exact this _ λi hi=>mem_range.1 hi
  rw[this];by_cases hj:j<l.length
  ·rw[bd,jp (by simpa using hj),jp hj];simp
  ·rw[bb (by simp;omega),bb i4]
 unfold bn;have:=hp.filterMap λi=>l[i]?;rw[h2] at this;exact this
omit [DecidableEq K] in
def kU(l:List (K×U))(seen:List Nat){i:Nat}{e:K×U}(h:l[i]?=some e):bn l (seen++[i])=bn l seen++[e]:=by
 unfold bn;rw[List.filterMap_append];simp[h]
end
def Mq(Z:Nat)(h:H)(v:AV)(s:Nat)(rows:List (List AV)):Prop:=
 (∀r∈rows,r.length=s)/\((rows=[]/\v=.slice none 0 0 (some 0))\/∃id bV x y,rows≠[]/\v=.slice (some (id,0)) rows.length s none/\h.aW.get id=some (.cells rows.flatten bV)/\h.dC.get bV=some (x,y)/\(id=x\/id=y)/\
  Z<=id/\Z<=x/\Z<=y/\Z<=bV/\id<h.next/\x<h.next/\y<h.next/\bV<h.next)
structure Over (Z:Nat) (h h':H):Prop where
 next:h.next<=h'.next
 aW:∀j,j<Z->h'.aW.get j=h.aW.get j
 dC:∀f,f<Z->h'.dC.get f=h.dC.get f
 low:h.low<=Z->h'.low=h.low
def Over.refl(Z:Nat)(h:H):Over Z h h:=⟨ap _,λ_ _=>rfl,λ_ _=>rfl,λ_=>rfl⟩
def Over.trans{Z:Nat}{h h' h'':H}(a:Over Z h h')(b:Over Z h' h''):Over Z h h'':=
 ⟨em a.next b.next,λj hj=>(b.aW j hj).trans (a.aW j hj),λj hj=>(b.dC j hj).trans (a.dC j hj),λhl=>(b.low (by rw[a.low hl];exact hl)).trans (a.low hl)⟩
variable{id:Nat}{bV:Nat}
def sm{Z:Nat}{h:H}{x y:Nat}(hf:h.dC.get bV=some (x,y))(hx:Z<=x)(hy:Z<=y)(hfm:Z<=bV):Over Z h (h.alone id bV)/\(h.alone id bV).next=h.next:=by
 unfold H.alone;rw[hf];simp only;cases hb:(beq x id&&beq y id)
 ·rw[au];refine⟨⟨ap _,λj hj=>?_,λf hff=>?_,λhl=>?_⟩,rfl⟩
  ·simp only;cases beq y id
   ·rw[au];cases beq x id
    ·rw[au,bo _ _ i4,bo _ _ i4]
    ·rw[ak,bo _ _ i4]
   ·rw[ak,bo _ _ i4]
  ·simp only;rw[bo _ _ i4]
  ·simp only
   have:Z<=gR x y:=by unfold gR;cases ble x y<;>simp<;>assumption
   exact vk i4
 ·rw[ak];exact⟨Over.refl _ _,rfl⟩
def HR.rewrite{σ:Sg}{h:H}{w w1:World}(hr:HR σ h w){cs cs':List AV}{p:sO}(ho:h.aW.get id=some (.cells cs bV))(hp:σ id=some p)(hlen:cs'.length=cs.length)
 {c c':Array Value} {e:TypeId} (hb:w.heap[p.b]?=some (.cells c e (0,0))) (hb':w1.heap[p.b]?=some (.cells c' e (0,0))) (hcz:c'.size=c.size) (hV:∀(i:Nat) (a:AV),cs'[i]?=some a->∃v,c'[p.d+i]?=some v/\V σ a v)
 (hoth:∀b,b≠p.b->w1.heap[b]?=w.heap[b]?) (hs:w1.heap.size=w.heap.size) (e1:w1.os=w.os) (e2:w1.tape=w.tape) (e3:w1.output=w.output):
 HR σ { h.alone id bV with aW:=(h.alone id bV).aW.put id (some (.cells cs' bV)),low:=gR (h.alone id bV).low id } w1/\
 Ext σ σ h { h.alone id bV with aW:=(h.alone id bV).aW.put id (some (.cells cs' bV)),low:=gR (h.alone id bV).low id } w w1:=by
 obtain⟨q,c0,e0,hq,h1,h2,h3,h4⟩:=hr.cells ho;rw[hp] at hq;cases hq;rw[hb] at h1;cases h1;obtain⟨a1,a2,a3,a4,a5,a6,a7,a8⟩:=ns hr ho;refine hr.update (o':=.cells cs' bV) ho hp ?_ a4 ?_ ?_ hoth hs e1 e2 e3 (em (dN _ _).1 a7) ?_
 ·intro j x hx;simp only[dA] at hx;split at hx
  ·rename_i e;cases hx;exact .inl ⟨e,rfl⟩
  ·rename_i hne;have hx':=a2 j x hx;refine .inr ⟨hne,hx',?_⟩;intro q hq hbb;obtain⟨cs1,e1⟩:=(hr.sep j id x _ q p hne hx' ho hq hp hbb).left;subst e1;exact hne (a3 j cs1 hx)
 ·intro i cs'' f hi;simp only[dA] at hi;split at hi
  ·rename_i e;cases hi;subst e;exact⟨(hr.bV i _ _ ho).1,a5⟩
  ·rename_i hne;have hi':=a2 _ _ hi;obtain⟨b1,x,y,b2,b3⟩:=hr.bV i _ _ hi';refine⟨b1,x,y,?_,b3⟩;rw[a6 f (λe=>hne (a3 i cs'' (e▸hi)))];exact b2
 ·exact⟨c',e,hb',by rw[hcz];exact h2,by omega,hV⟩
 ·intro j hj hjn;simp only[dA];have hm:=dN (h.alone id bV).low id;rw[v6 (by simp only at hj;omega)];exact a8 j (by simp only at hj;omega)
def Bi{h:H}{x y:Nat}(hf:h.dC.get bV=some (x,y)):(h.alone id bV).dC.get bV=some (id,id):=by
 unfold H.alone;rw[hf];simp only;cases hb:(beq x id&&beq y id)
 ·rw[au];exact cZ _ _ _
 ·rw[ak,hf];simp only[bh] at hb;rw[cU hb.1,cU hb.2]
def eG:∀a:List Nat,gC a a=false
 | []=>rfl
 | x::a=>by
  simp only[gC,eG a,Bool.and_false,Bool.or_false];cases hb:blt x x
  ·rfl
  ·exact un (fK hb) (Nat.lt_irrefl _)
def JA(a b:Nat):blt a b=decide (a<b):=by
 by_cases h:a<b
 ·have:blt a b=true:=Nat.ble_eq_true_of_le h;simp[h,this]
 ·cases hb:blt a b
  ·simp[h]
  ·exact un (fK hb) h
def beq_iff(a b:Nat):beq a b=decide (a=b):=by
 by_cases h:a=b
 ·subst h;simp
 ·cases hb:beq a b
  ·simp[h]
  ·exact un (cU hb) h
def l7:∀a b:List Nat,gC a b=true\/a=b\/gC b a=true
 | [],[]=>.inr (.inl rfl)
 | [],_::_=>.inl rfl
 | _::_,[]=>.inr (.inr rfl)
 | x::a,y::b=>by
  simp only[gC,JA,beq_iff]
  rcases Nat.lt_trichotomy x y with h | h | h
  ·exact .inl (by simp[h])
  ·subst h
   rcases l7 a b with h | h | h
   ·exact .inl (by simp[h])
   ·exact .inr (.inl (by rw[h]))
   ·exact .inr (.inr (by simp[h]))
  ·exact .inr (.inr (by simp[h]))
def ij:∀{a b c:List Nat},gC a b=true->gC b c=true->gC a c=true
 | _,[],_,h,_=>by simp[gC] at h
 | _,_::_,[],_,h=>by simp[gC] at h
 | [],_::_,_::_,_,_=>rfl
 | x::a,y::b,z::c,h1,h2=>by
  simp only[gC,JA,beq_iff,c5,bh,wp] at h1 h2 ⊢
  rcases h1 with h1 | ⟨h1,g1⟩
  ·rcases h2 with h2 | ⟨h2,_⟩
   ·exact .inl i4
   ·exact .inl i4
  ·rcases h2 with h2 | ⟨h2,g2⟩
   ·exact .inl i4
   ·exact .inr ⟨by omega,ij g1 g2⟩
def ry{a b:List Nat}(h:gC a b=true):gC b a=false:=by
 cases hb:gC b a
 ·rfl
 ·have:=ij h hb;rw[eG] at this;cases this
def j7{h:H}{x y:Nat}(hf:h.dC.get bV=some (x,y)){i:Nat}(hx:i≠x)(hy:i≠y):(h.alone id bV).aW.get i=h.aW.get i:=by
 unfold H.alone;rw[hf];simp only;cases hb:(beq x id&&beq y id)
 ·rw[au];simp only;cases beq y id
  ·rw[au];cases beq x id
   ·rw[au,bo _ _ hy,bo _ _ hx]
   ·rw[ak,bo _ _ hy]
  ·rw[ak,bo _ _ hx]
 ·rw[ak]
variable{k:IntKind}
def NM{a b:Int}:yP false (.int k a) (.int k b)=some (.int k (if a<=b then a else b)):=by
 simp only[yP,gq,au];by_cases h:a<=b<;>simp[h]
def NL{a b:Int}:yP true (.int k a) (.int k b)=some (.int k (if b<=a then a else b)):=by
 simp only[yP,gq,ak];by_cases h:b<=a<;>simp[h]
open Go.RowKit Go.ChangeShapes Go.WideShapes Go.Deep
section
abbrev O8:=List (sO×Option (List AV))
def Oh:O8->Nat->Tr AO->Tr AO
 | [],_,t=>t
 | (_,oc)::l,i,t=>Oh l (i+1) (match oc with | some cs=>t.put i (some (.ro cs)) | none=>t)
def UB(l:O8):H:={ aW:=Oh l 0 .nil,dC:=.nil,next:=l.length,low:=0 }
def F4:∀(l:O8) (i:Nat) (t:Tr AO) (j:Nat),(Oh l i t).get j=if i<=j/\j<i+l.length then (match (l[j-i]?).bind (·.2) with | some cs=>some (.ro cs) | none=>t.get j) else t.get j
 | [],i,t,j=>by rw[v6 ge];rfl
 | (p,oc)::l,i,t,j=>by
  unfold Oh;rw[F4 l (i+1)];by_cases hj:j=i
  ·subst hj;rw[v6 i4,ut ge,er]
   cases oc with
   | none=>rfl
   | some cs=>exact cZ _ _ _
  ·have ht:(match oc with | some cs=>t.put i (some (.ro cs)) | none=>t).get j=t.get j:=by
    cases oc with
    | none=>rfl
    | some cs=>exact bo _ _ hj
   rw[ht];by_cases h:i+1<=j/\j<i+1+l.length
   ·rw[ut h,ut (by simp;omega)]
    have e:j-i=(j-(i+1))+1:=by omega
    rw[e,ac]
   ·rw[v6 h,v6 (by simp;omega)]
def PR(l:O8)(j:Nat):(UB l).aW.get j=((l[j]?).bind (·.2)).map .ro:=by
 show(Oh l 0 .nil).get j=_;rw[F4,ey,b5];by_cases h:j<l.length
 ·rw[ut ⟨d6 _,h⟩]
  cases hb:(l[j]?).bind (·.2) with
  | none=>exact get_nil _
  | some cs=>rfl
 ·rw[v6 i4,bb i4];exact get_nil _
variable{v:Value}
def Bm{w:World}{b o:Nat}(h:w.cell? ⟨b,o,none⟩=some v):∃c e f,w.heap[b]?=some (.cells c e f)/\c[o]?=some v:=by
 unfold World.cell? at h;split at h
 ·rename_i c e f hb;split at h
  ·cases h
  ·exact⟨c,e,f,hb,h⟩
 ·cases h
variable {Hh:Type} {enc:TypeId×Value->Hh} {P:Program} {w:World} {held:Bool}
def ta(s:ByteArray):∀b∈s.data.toList.map (·.toNat),b<256:=by
 intro b hb;obtain⟨u,_,rfl⟩:=mem_map.1 hb;exact u.toNat_lt
end
open Go.RowKit
mutual
def Wd(w:World):DV->Value->Prop
 | .fl a,v=>mH a=true/\∀σ:Sg,V σ a v
 | .sl nl n e cs,v=>(nl=true/\n=0/\cs=[]/\v=.slice none 0 0)\/
  (nl=false/\∃a c,v=.slice (some a) n c/\n<=c/\((n=0/\cs=[]/\(a.spot=none\/c=0))\/
   (0<n/\a.spot=none/\∃arr ty f us,w.heap[a.block]?=some (.cells arr ty f)/\a.off+c*e<=arr.size/\us.length=n*e/\(∀(i:Nat) u,us[i]?=some u->arr[a.off+i]?=some u)/\nr w cs us)))
 | .ag cs,v=>∃vs,v=.agg vs/\nr w cs vs.toList
def nr(w:World):List DV->List Value->Prop
 | [],us=>us=[]
 | d::ds,us=>∃u r,us=u::r/\Wd w d u/\nr w ds r
end
mutual
def Dp(s:Bool)(h:H):DV->AV->Prop
 | .fl a0,a=>a=a0/\mH a0=true
 | .sl nl n e cs,a=>(n=0/\cs=[]/\(∃o e' c,a=.slice o 0 e' c/\(o=none->c=some 0)/\(o≠none->e'=e))/\(s=true->nl=true/\a=.slice none 0 e (some 0)))\/
  ((s=true->nl=false/\0<n)/\∃id off cap row aS,a=.slice (some (id,off)) n e cap/\id<h.next/\rS h.aW id=some row/\off+n*e<=row.length/\aS=(row.drop off).take (n*e)/\Em s h cs aS)
 | .ag cs,a=>∃aS,a=.agg aS/\Em s h cs aS
def Em(s:Bool)(h:H):List DV->List AV->Prop
 | [],aS=>aS=[]
 | d::ds,aS=>∃a r,aS=a::r/\Dp s h d a/\Em s h ds r
end
section
variable {w:World} {s:Bool} {h:H}
variable{v:Value}
def Ew:Wd w (.fl a) v↔mH a=true/\∀σ:Sg,V σ a v:=by rw[Wd]
variable{cs:List DV}
def Ey{nl:Bool}{n e:Nat}:Wd w (.sl nl n e cs) v↔(nl=true/\n=0/\cs=[]/\v=.slice none 0 0)\/
 (nl=false/\∃a c,v=.slice (some a) n c/\n<=c/\((n=0/\cs=[]/\(a.spot=none\/c=0))\/
  (0<n/\a.spot=none/\∃arr ty f us,w.heap[a.block]?=some (.cells arr ty f)/\a.off+c*e<=arr.size/\us.length=n*e/\(∀(i:Nat) u,us[i]?=some u->arr[a.off+i]?=some u)/\nr w cs us))):=by rw[Wd]
def Mw:Wd w (.ag cs) v↔∃vs,v=.agg vs/\nr w cs vs.toList:=by rw[Wd]
variable{us:List Value}
def iX:nr w [] us↔us=[]:=by rw[nr]
variable{ds:List DV}
def eb{d:DV}:nr w (d::ds) us↔∃u r,us=u::r/\Wd w d u/\nr w ds r:=by rw[nr]
def SP{a0:AV}:Dp s h (.fl a0) a↔a=a0/\mH a0=true:=by rw[Dp]
def Jq{nl:Bool}{n e:Nat}:Dp s h (.sl nl n e cs) a↔(n=0/\cs=[]/\(∃o e' c,a=.slice o 0 e' c/\(o=none->c=some 0)/\(o≠none->e'=e))/\(s=true->nl=true/\a=.slice none 0 e (some 0)))\/
 ((s=true->nl=false/\0<n)/\∃id off cap row aS,a=.slice (some (id,off)) n e cap/\id<h.next/\rS h.aW id=some row/\off+n*e<=row.length/\aS=(row.drop off).take (n*e)/\Em s h cs aS):=by rw[Dp]
def SM:Dp s h (.ag cs) a↔∃aS,a=.agg aS/\Em s h cs aS:=by rw[Dp]
variable{aS:List AV}
def Pa:Em s h [] aS↔aS=[]:=by rw[Em]
def Mo{d:DV}:Em s h (d::ds) aS↔∃a r,aS=a::r/\Dp s h d a/\Em s h ds r:=by rw[Em]
end
def Mu(σ:Sg)(w:World)(p:sO)(row:List AV):Prop:=∃c e f,w.heap[p.b]?=some (.cells c e f)/\p.d+p.r<=c.size/\row.length<=p.r/\∀(i:Nat) (a:AV),row[i]?=some a->∃v,c[p.d+i]?=some v/\V σ a v
def MC{α:Type}{a b:List α}{i:Nat}{x:α}(h:(a++b)[i]?=some x):(i<a.length/\a[i]?=some x)\/(a.length<=i/\b[i-a.length]?=some x):=by
 rw[c6] at h;split at h
 ·rename_i hi;exact .inl ⟨hi,h⟩
 ·rename_i hi;exact .inr ⟨by omega,h⟩
mutual
def Wd.canon{w:World}:∀{d:DV} {v:Value},Wd w d v->∀k,∃ps:List sO,ps.length=(canon d k).2.length/\∀σ:Sg,(∀(i:Nat) p,ps[i]?=some p->σ (k+i)=some p)->
 V σ (Ev.canon d k).1 v/\∀(i:Nat) p row,ps[i]?=some p->(Ev.canon d k).2[i]?=some (some row)->Mu σ w p row
 | .fl a,v,hd,k=>by
  rw[Ew] at hd;simp only[Ev.canon];exact⟨[],rfl,λσ _=>⟨hd.2 σ,λi p row h _=>by simp at h⟩⟩
 | .sl nl n e cs,v,hd,k=>by
  rw[Ey] at hd
  rcases hd with⟨rfl,rfl,rfl,rfl⟩ | ⟨rfl,a,c,rfl,hl,⟨rfl,rfl,hsp⟩ | ⟨hn,hsp,arr,ty,f,us,g1,g2,g3,g4,g5⟩⟩
  ·simp only[Ev.canon];exact⟨[],rfl,λσ _=>⟨.gV rfl,λi p row h _=>by simp at h⟩⟩
  ·simp only[Ev.canon,eR];refine⟨[⟨a.block,a.off,c*e⟩],rfl,λσ hσ=>⟨?_,λi p row h1 h2=>?_⟩⟩
   ·have h0:=hσ 0 _ rfl;rw[el] at h0;refine .slice h0 hl (by show 0+c*e<=c*e;omega) ge ?_
    rcases hsp with hsp | hsp
    ·left;cases a;simp only at hsp ⊢;subst hsp;rfl
    ·exact .inr hsp
   ·cases i with
    | zero=>simp at h2
    | succ i=>simp at h1
  ·obtain⟨ps,hps,hσs⟩:=nr.canon g5 (k+1);obtain⟨m,rfl⟩:∃m,n=m+1:=⟨n-1,by omega⟩;simp only[Ev.canon];refine⟨⟨a.block,a.off,c*e⟩::ps,by simp[hps],λσ hσ=>?_⟩;have h0:=hσ 0 _ rfl;rw[el] at h0
   obtain⟨k1,k2⟩:=hσs σ λi p hp=>by
    have:=hσ (i+1) p (by simpa using hp);rw[show k+1+i=k+(i+1) by omega];exact this
   refine⟨.slice h0 hl (by show 0+c*e<=c*e;omega) ge (.inl (by cases a;simp only at hsp ⊢;subst hsp;rfl)),λi p row h1 h2=>?_⟩
   cases i with
   | zero=>
    simp only[ax,qr] at h1 h2;subst h1;subst h2;have hlen:=k1.1;refine⟨arr,ty,f,g1,by simpa using g2,?_,λi x hx=>?_⟩
    ·rw[hlen,g3];exact Nat.mul_le_mul_right e hl
    ·obtain⟨u,hu,hV⟩:=k1.get hx;exact⟨u,g4 i u hu,hV⟩
   | succ i=>
    simp only[ac] at h1 h2;exact k2 i p row h1 h2
 | .ag cs,v,hd,k=>by
  rw[Mw] at hd;obtain⟨vs,rfl,h1⟩:=hd;obtain⟨ps,hps,hσs⟩:=nr.canon h1 k;simp only[Ev.canon];refine⟨ps,hps,λσ hσ=>?_⟩;obtain⟨k1,k2⟩:=hσs σ hσ;exact⟨.agg (by simpa using k1.1) (λi x y hx hy=>k1.2 i x y hx (by simpa using hy)),k2⟩
def nr.canon{w:World}:∀{ds:List DV} {us:List Value},nr w ds us->∀k,∃ps:List sO,ps.length=(eR ds k).2.length/\∀σ:Sg,(∀(i:Nat) p,ps[i]?=some p->σ (k+i)=some p)->
 VL σ (eR ds k).1 us/\∀(i:Nat) p row,ps[i]?=some p->(eR ds k).2[i]?=some (some row)->Mu σ w p row
 | [],us,hd,k=>by
  rw[iX] at hd;subst hd;simp only[eR];exact⟨[],rfl,λσ _=>⟨.nil,λi p row h _=>by simp at h⟩⟩
 | d::ds,us,hd,k=>by
  rw[eb] at hd;obtain⟨u,r,rfl,h1,h2⟩:=hd;obtain⟨ps,hps,hσ1⟩:=Wd.canon h1 k;obtain⟨qs,hqs,hσ2⟩:=nr.canon h2 (k+(Ev.canon d k).2.length);simp only[eR];refine⟨ps++qs,by simp[hps,hqs],λσ hσ=>?_⟩
  obtain⟨a1,a2⟩:=hσ1 σ λi p hp=>hσ i p (by
   have hi:i<ps.length:=(rt hp).1
   rw[am hi];exact hp)
  obtain⟨b1,b2⟩:=hσ2 σ λi p hp=>by
   have:=hσ (ps.length+i) p (by rw[a9 i4,bv];exact hp);rw[<-hps,fx];exact this
  refine⟨.cons a1 b1,λi p row g1 g2=>?_⟩
  rcases MC g1 with⟨i1,e1⟩ | ⟨i1,e1⟩<;>rcases MC g2 with⟨i2,e2⟩ | ⟨i2,e2⟩
  ·exact a2 i p row e1 e2
  ·omega
  ·omega
  ·rw[hps] at e1;exact b2 _ p row e1 e2
end
def RU(rows:List (Option (List AV))):H:=UB (rows.map λr=>(⟨0,0,0⟩,r))
def tD(rows:List (Option (List AV)))(j:Nat):(RU rows).aW.get j=((rows[j]?).bind λr=>r).map .ro:=by
 unfold RU;rw[PR,bd];cases rows[j]?<;>rfl
def RV{w:World}{rows:List (Option (List AV))}{ps:List sO}(hl:ps.length=rows.length)(hin:∀(i:Nat) p row,ps[i]?=some p->rows[i]?=some (some row)->Mu (λi=>ps[i]?) w p row):HR (λi=>ps[i]?) (RU rows) w:=by
 refine⟨?_,?_,?_,?_,d6 _⟩
 ·intro id o ho;rw[tD] at ho;obtain⟨cs,h1,rfl⟩:=az ho
  cases hx:rows[id]? with
  | none=>rw[hx] at h1;cases h1
  | some r=>
   rw[hx] at h1;have h1:r=some cs:=h1;subst h1;have hid:id<rows.length:=(rt hx).1;have hp:ps[id]?=some ps[id]:=jp i4;exact⟨ps[id],hp,hin id _ cs hp hx⟩
 ·intro id hid;have hid:(rows.map λr=>((⟨0,0,0⟩:sO),r)).length<=id:=hid;rw[b9] at hid;exact bb i4
 ·intro i j o o' p q hij hi hj _ _ _;rw[tD] at hi hj;obtain⟨cs,_,rfl⟩:=az hi;obtain⟨cs',_,rfl⟩:=az hj;exact .inr ⟨cs,cs',rfl,rfl⟩
 ·intro i cs f hi;rw[tD] at hi;obtain⟨cs',_,e⟩:=az hi;cases e
def HP{rows:List (Option (List AV))}{σ σ':Sg}{h':H}{w w':World}(hE:Ext σ σ' (RU rows) h' w w'):Below w.heap.size w w':=
 ⟨hE.os,hE.tape,hE.output,hE.size,λk hk=>hE.frame k hk λid o p ho hw=>by
  rw[tD] at ho;obtain⟨cs,_,rfl⟩:=az ho
  exact un rfl (hw cs)⟩
variable{ds:List DV}{us:List Value}
def nr.lay{w:World}(h:nr w ds us):∃σ:Sg,VL σ (eR ds 0).1 us/\HR σ (RU (eR ds 0).2) w:=by
 obtain⟨ps,hps,hσ⟩:=nr.canon h 0;obtain⟨k1,k2⟩:=hσ (λi=>ps[i]?) (λi p hp=>by rw[b5];exact hp);exact⟨_,k1,RV hps k2⟩
def Sub(rows:List (Option (List AV)))(k:Nat)(l:List (Option (List AV))):Prop:=∀(i:Nat) r,l[i]?=some r->rows[k+i]?=some r
mutual
def Wd.dp{w:World}{rows:List (Option (List AV))}:∀{d:DV} {v:Value},Wd w d v->∀k,Sub rows k (Ev.canon d k).2->Dp false (RU rows) d (Ev.canon d k).1
 | .fl a,v,hd,k,hs=>by
  rw[Ew] at hd;simp only[Ev.canon,Dp];exact⟨trivial,hd.1⟩
 | .sl nl n e cs,v,hd,k,hs=>by
  rw[Ey] at hd
  rcases hd with⟨rfl,rfl,rfl,rfl⟩ | ⟨rfl,a,c,rfl,hl,⟨rfl,rfl,hsp⟩ | ⟨hn,hsp,arr,ty,f,us,g1,g2,g3,g4,g5⟩⟩
  ·simp only[Ev.canon];rw[Jq];exact .inl ⟨rfl,rfl,⟨_,_,_,rfl,by simp⟩,λh=>by cases h⟩
  ·simp only[Ev.canon];rw[Jq];exact .inl ⟨rfl,rfl,⟨_,_,_,rfl,by simp⟩,λh=>by cases h⟩
  ·obtain⟨m,rfl⟩:∃m,n=m+1:=⟨n-1,by omega⟩;simp only[Ev.canon] at hs ⊢
   have hlen:(eR cs (k+1)).1.length=(m+1)*e:=by
    obtain⟨ps,hps,hσ⟩:=nr.canon g5 (k+1);have:=(hσ (λi=>ps[i-(k+1)]?) (λi p hp=>by rw[bv];exact hp)).1.1;rw[this,g3]
   have h0:=hs 0 _ rfl;rw[el] at h0;have hk:k<rows.length:=(rt h0).1
   have ih:=nr.dp (rows:=rows) g5 (k+1) (λi r hr=>by
    have:=hs (i+1) r (by simpa using hr)
    rw[show k+1+i=k+(i+1) by omega];exact this)
   rw[Jq];refine .inr ⟨λh=>(by cases h),k,0,none,(eR cs (k+1)).1,(eR cs (k+1)).1,rfl,?_,?_,?_,?_,ih⟩
   ·show k<(rows.map _).length;rw[b9];exact hk
   ·unfold rS;rw[tD,h0];rfl
   ·rw[hlen];omega
   ·rw[fv,b8 i4]
 | .ag cs,v,hd,k,hs=>by
  rw[Mw] at hd;obtain⟨vs,rfl,h1⟩:=hd;simp only[Ev.canon] at hs ⊢;simp only[Dp];exact⟨_,rfl,nr.dp h1 k hs⟩
def nr.dp{w:World}{rows:List (Option (List AV))}:∀{ds:List DV} {us:List Value},nr w ds us->∀k,Sub rows k (eR ds k).2->Em false (RU rows) ds (eR ds k).1
 | [],us,hd,k,hs=>by
  simp only[eR,Em]
 | d::ds,us,hd,k,hs=>by
  rw[eb] at hd;obtain⟨u,r,rfl,h1,h2⟩:=hd;simp only[eR] at hs ⊢;simp only[Em];refine⟨_,_,rfl,Wd.dp h1 k (λi x hx=>hs i x ?_),nr.dp h2 _ (λi x hx=>?_)⟩
  ·have hi:i<(Ev.canon d k).2.length:=(rt hx).1;rw[am hi];exact hx
  ·have:=hs ((Ev.canon d k).2.length+i) x (by rw[a9 i4,bv];exact hx);rw[fx];exact this
end
section
inductive Ty where
 | bool
 | int (k:IntKind)
 | str
 | sl (t:Ty)
 | st (ts:List Ty)
 | no (s:Nat)
mutual
def Ty.size:Ty->Nat
 | .st ts=>Ty.oU ts
 | .no s=>s
 | _=>1
def Ty.oU:List Ty->Nat
 | []=>0
 | t::ts=>t.size+Ty.oU ts
end
mutual
def kr(B:Nat):Ty->List DV->Prop
 | .bool,ds=>∃b,ds=[.fl (.bool b)]
 | .int k,ds=>∃n,ds=[.fl (.int k n)]/\(Lit.int k n).wf=true
 | .str,ds=>∃s:List Nat,ds=[.fl (.str s)]/\(∀x∈s,x<256)/\s.length<=B
 | .sl t,ds=>∃(nl:Bool) (rows:List (List DV)),ds=[.sl nl rows.length t.size rows.flatten]/\rows.length<=B/\∀r∈rows,kr B t r
 | .st ts,ds=>dY B ts ds
 | .no _,_=>False
def dY(B:Nat):List Ty->List DV->Prop
 | [],ds=>ds=[]
 | t::ts,ds=>∃d1 d2,ds=d1++d2/\kr B t d1/\dY B ts d2
end
def TU(B:Nat):Ty->DV->Prop
 | .st ts,d=>∃ds,d=.ag ds/\dY B ts ds
 | t,d=>kr B t [d]
def gj(P:Program)(rec:TypeId->Option Ty):List Field->Nat->Option (List Ty)
 | [],_=>some []
 | f::fs,off=>cond (beq f.offset off) ((rec f.type).bind λt=>cond (beq (P.cellsOf f.type) t.size) ((gj P rec fs (off+t.size)).map (t::·)) none) none
def ga(P:Program):Nat->TypeId->Option Ty
 | 0,t=>some (.no (P.cellsOf t))
 | k+1,t=>match P.underlying t with
  | some .bool=>some .bool
  | some (.int i)=>some (.int i)
  | some .string=>some .str
  | some (.slice e)=>(ga P k e).bind λte=>cond (beq (P.cellsOf e) te.size&&(ble 1 te.size&&ble 1 (P.bytesOf e))) (some (.sl te)) none
  | some (.struct fs)=>(gj P (ga P k) fs.toList 0).bind λts=>cond (beq (P.cellsOf t) (Ty.oU ts)) (some (.st ts)) none
  | _=>none
def nr.append{w:World}:∀{a b:List DV} {x y:List Value},nr w a x->nr w b y->nr w (a++b) (x++y)
 | [],b,x,y,h1,h2=>by rw[iX] at h1;subst h1;exact h2
 | d::a,b,x,y,h1,h2=>by
  rw[eb] at h1;obtain⟨u,r,rfl,k1,k2⟩:=h1;rw[List.cons_append,eb];exact⟨u,r++y,rfl,k1,nr.append k2 h2⟩
def nr.rows{w:World}{n:Nat}{G:Nat->List DV}{F:Nat->List Value}(h:∀i,i<n->nr w (G i) (F i)):nr w ((bg n).map G).flatten ((bg n).map F).flatten:=by
 have key:∀l:List Nat,(∀i∈l,i<n)->nr w (l.map G).flatten (l.map F).flatten:=by
  intro l
  induction l with
  | nil=>intro _;rw[map_nil,map_nil,e6,e6,iX]
  | cons a l ih=>
   intro hl;rw[ce,ce,bc,bc];exact nr.append (h a (hl a (aj ..))) (ih λi hi=>hl i (ad _ hi))
 exact key _ λi hi=>mem_range.1 hi
def E7{α:Type}{s:Nat}:∀{rows:List (List α)},(∀r∈rows,r.length=s)->∀{j:Nat} {x:α},rows.flatten[j]?=some x->∃i k r,j=i*s+k/\k<s/\rows[i]?=some r/\r[k]?=some x
 | [],_,j,x,h=>by simp at h
 | a::rows,hw,j,x,h=>by
  have ha:=hw a (aj ..);rw[bc,c6] at h;split at h
  ·rename_i hj;exact⟨0,j,a,by omega,by omega,rfl,h⟩
  ·obtain⟨i,k,r,e1,e2,e3,e4⟩:=E7 (λr hr=>hw r (ad _ hr)) h;exact⟨i+1,k,r,by rw[ci];omega,e2,e3,e4⟩
variable {Hh:Type} {enc:TypeId×Value->Hh} {P:Program} {w:World} {held:Bool}
variable {B:Nat}
def Qd:∀{t:Ty} {ds:List DV},kr B t ds->(∀ts,t≠.st ts)->ds.length=1:=by
 intro t ds h hn
 cases t with
 | bool=>rw[kr] at h;obtain⟨b,rfl⟩:=h;rfl
 | int k=>rw[kr] at h;obtain⟨n,rfl,_⟩:=h;rfl
 | str=>rw[kr] at h;obtain⟨s,rfl,_⟩:=h;rfl
 | sl t=>rw[kr] at h;obtain⟨nl,rows,rfl,_,_⟩:=h;rfl
 | st ts=>exact un rfl (hn ts)
 | no s=>rw[kr] at h;exact h.elim
def ng{e:TypeId}{x:DataW Hh}{n:Nat}(hn:n∈x.weights P e):∀{l:List (DataW Hh)},x∈l->n∈DataW.weightsAll P e l
 | [],h=>by cases h
 | d::l,h=>by
  unfold DataW.weightsAll
  rcases t7 h with rfl | h
  ·exact d3 _ hn
  ·exact cb _ (ng hn h)
def Tg{t e:TypeId}{n:Nat}{cs:List Value}{x:DataW Hh×List MemPlace}(ht:P.underlying t=some (.slice e))(h:DataW.trod enc P w 0 (λ_=>true) held n t cs=some x):
 (cs=[.slice none 0 0]/\x=(.nil,[]))\/∃(a:Addr) (len cap n':Nat) (D:Nat->DataW Hh),n=n'+1/\cs=[.slice (some a) len cap]/\len<=cap/\x.1=.slice ((bg len).map D) ((bg (cap-len)).map λj=>D (len+j))/\
  ∀i,i<cap->∃cs' y,w.cells? 0 (a.add (i*P.cellsOf e)) (P.cellsOf e)=some cs'/\DataW.trod enc P w 0 (λ_=>true) held n' e cs'=some y/\y.1=D i:=by
 rcases DataW.trod_slice ht h with h0 | ⟨a,len,cap,elems,rest,n',hn,hcs,hx,_,hl,_,hlen,hel,hsp,_⟩
 ·exact .inl h0
 obtain⟨hrl,hre⟩:=hsp rfl;refine .inr ⟨a,len,cap,n',λi=>((elems++rest).getD i (.nil,[])).1,hn,hcs,hl,?_,λi hi=>?_⟩
 ·rw[hx];show DataW.slice _ _=_
  congr 1
  ·refine e5 (by simp[hlen]) λi h1 h2=>?_
   have h3:i<elems.length:=by simpa using h1
   simp[getD,am h3,jp h3]
  ·refine e5 (by simp[hrl]) λi h1 h2=>?_
   have h3:i<rest.length:=by simpa using h1
   have h4:elems.length<=len+i:=by omega
   have h5:len+i-elems.length=i:=by omega
   simp[getD,a9 h4,h5,jp h3]
 ·by_cases hil:i<len
  ·have h3:i<elems.length:=by omega
   have k:=hel i hil;rw[jp h3] at k;obtain⟨cs',h1,h2⟩:=ul k;exact⟨cs',_,h1,h2,by simp[getD,am h3,jp h3]⟩
  ·have h3:i-len<rest.length:=by omega
   have k:=hre (i-len) i4;rw[jp h3,show len+(i-len)=i by omega] at k;obtain⟨cs',h1,h2⟩:=ul k
   have h4:elems.length<=i:=by omega
   have h5:i-elems.length=i-len:=by omega
   exact⟨cs',_,h1,h2,by simp[getD,a9 h4,h5,jp h3]⟩
def vT{rec:TypeId->Option Ty}{cs:List Value}{m:Nat}(hrec:∀(t:TypeId) (ty:Ty),rec t=some ty->∀(n:Nat),n<=m->∀(c:List Value) (y:DataW Hh×List MemPlace),DataW.trod enc P w 0 (λ_=>true) held n t c=some y->(∀x∈y.1.weights P t,x<=B)->∃ds,kr B ty ds/\nr w ds c):
 ∀(fs:List Field) (off:Nat) (ts:List Ty),gj P rec fs off=some ts->off+Ty.oU ts=cs.length->(∀f∈fs,∃n y,n<=m/\DataW.trod enc P w 0 (λ_=>true) held n f.type ((cs.drop f.offset).take (P.cellsOf f.type))=some y/\∀x∈y.1.weights P f.type,x<=B)->∃ds,dY B ts ds/\nr w ds (cs.drop off)
 | [],off,ts,h,hl,_=>by
  simp only[gj,qr] at h;subst h;simp only[Ty.oU] at hl;exact⟨[],by rw[dY],by rw[iX,List.drop_of_length_le i4]⟩
 | f::fs,off,ts,h,hl,hf=>by
  unfold gj at h;obtain⟨ho,h⟩:=aI h;have ho:=cU ho
  cases hr:rec f.type with
  | none=>rw[hr] at h;cases h
  | some t=>
   rw[hr] at h;simp only[m7] at h;obtain⟨hc,h⟩:=aI h;have hc:=cU hc;obtain⟨ts',h',rfl⟩:=az h;simp only[Ty.oU] at hl;obtain⟨n,y,hnm,hy,hwt⟩:=hf f (aj ..);rw[ho,hc] at hy;obtain⟨d1,k1,k2⟩:=hrec _ _ hr n hnm _ y hy hwt;obtain⟨d2,k3,k4⟩:=vT hrec fs (off+t.size) ts' h' i4 (λg hg=>hf g (ad _ hg));refine⟨d1++d2,by rw[dY];exact⟨d1,d2,rfl,k1,k3⟩,?_⟩
   have e:cs.drop off=(cs.drop off).take t.size++cs.drop (off+t.size):=by
    rw[<-List.drop_drop,List.take_append_drop]
   rw[e];exact k2.append k4
def vA:∀(k:Nat) (t:TypeId) (ty:Ty),ga P k t=some ty->∀(n:Nat),n<=k->∀(c:List Value) (y:DataW Hh×List MemPlace),DataW.trod enc P w 0 (λ_=>true) held n t c=some y->(∀x∈y.1.weights P t,x<=B)->∃ds,kr B ty ds/\nr w ds c
 | 0,t,ty,h,n,hnk,_,_,hy,_=>by
  rw[Nat.le_zero.1 hnk] at hy;simp[DataW.trod] at hy
 | k+1,t,ty,h,n,hnk,c,y,hy,hwt=>by
  unfold ga at h
  cases hu:P.underlying t with
  | none=>rw[hu] at h;cases h
  | some u=>
   rw[hu] at h
   cases u with
   | bool=>
    cases h;obtain⟨b,rfl,_⟩:=DataW.trod_bool hu hy;exact⟨[.fl (.bool b)],by rw[kr];exact⟨b,rfl⟩,by rw[eb];exact⟨_,_,rfl,by rw[Ew];exact⟨rfl,λσ=>.bool b⟩,by rw[iX]⟩⟩
   | int i=>
    cases h;obtain⟨m,rfl,_,wf⟩:=DataW.trod_int hu hy;exact⟨[.fl (.int i m)],by rw[kr];exact⟨m,rfl,wf⟩,by rw[eb];exact⟨_,_,rfl,by rw[Ew];exact⟨rfl,λσ=>.int _ _⟩,by rw[iX]⟩⟩
   | string=>
    cases h;obtain⟨s,rfl,rfl,hs⟩:=DataW.trod_string hu hy
    have hlen:(kc s).length<=B:=by
     unfold kc;rw[b9];exact hwt _ (by simp[DataW.weights])
    exact⟨[.fl (.str (kc s))],by rw[kr];exact⟨_,rfl,ta s,hlen⟩,by rw[eb];exact⟨_,_,rfl,by rw[Ew];exact⟨rfl,λσ=>.str rfl⟩,by rw[iX]⟩⟩
   | slice e=>
    simp only at h
    cases he:ga P k e with
    | none=>rw[he] at h;cases h
    | some te=>
     rw[he] at h;simp only[m7] at h;obtain⟨hb,h⟩:=aI h;cases h;rw[bh] at hb;have hs:P.cellsOf e=te.size:=cU hb.1;obtain⟨hb1,hb2⟩:=hb;rw[bh] at hb2;have hs0:0<te.size:=jg hb2.1;have hby:1<=P.bytesOf e:=jg hb2.2
     rcases Tg hu hy with⟨rfl,_⟩ | ⟨a,len,m,n',D,hnn,rfl,hl,hyx,hx⟩
     ·exact⟨[.sl true 0 te.size []],by rw[kr];exact⟨true,[],rfl,d6 _,λr hr=>(fa hr).elim⟩,by rw[eb];exact⟨_,_,rfl,by rw[Ey];exact .inl ⟨rfl,rfl,rfl,rfl⟩,by rw[iX]⟩⟩
     ·rw[hs] at hx
      rcases d5 m with hm0 | hm0
      ·subst hm0
       have:len=0:=by omega
       subst this
       exact⟨[.sl false 0 te.size []],by rw[kr];exact⟨false,[],rfl,d6 _,λr hr=>(fa hr).elim⟩,
        by rw[eb];exact⟨_,_,rfl,by rw[Ey];exact .inr ⟨rfl,a,0,rfl,ap _,.inl ⟨rfl,rfl,.inr rfl⟩⟩,by rw[iX]⟩⟩
      ·have hspot:a.spot=none:=by
        obtain⟨cs',_,h1,_⟩:=hx 0 hm0;obtain⟨_,h2,h3⟩:=World.cells?_some h1;have h4:=h3 0 i4
        have h5:0<cs'.length:=by omega
        rw[jp h5] at h4;have:=World.cell?_spot h4;simpa [Addr.add] using this
       obtain⟨b,o,sp⟩:=a;simp only at hspot;subst hspot
       have hcell:∀i,i<m->∃cs',cs'.length=te.size/\(∀k,k<te.size->w.cell? ⟨b,o+(i*te.size+k),none⟩=cs'[k]?)/\∃y,DataW.trod enc P w 0 (λ_=>true) held n' e cs'=some y/\y.1=D i:=by
        intro i hi;obtain⟨cs',y,h1,h2⟩:=hx i hi;obtain⟨_,h3,h4⟩:=World.cells?_some h1;refine⟨cs',h3,λk hk=>?_,y,h2⟩;have:=h4 k i4;rw[gE,gE] at this;rw[<-this];congr 2;omega
       obtain⟨cs0,hc1,hc2,_⟩:=hcell 0 hm0;have h00:=hc2 0 hs0;rw[jp i4] at h00;obtain⟨arr,e',f,hb',_⟩:=Bm h00
       have hgc:∀k v,w.cell? ⟨b,k,none⟩=some v->arr[k]?=some v:=by
        intro k v hk;obtain⟨c',e'',f',hb'',hv'⟩:=Bm hk;rw[hb'] at hb'';cases hb'';exact hv'
       have hsz:o+m*te.size<=arr.size:=by
        obtain⟨cs1,g1,g2,_⟩:=hcell (m-1) i4;have h01:=g2 (te.size-1) i4;rw[jp i4] at h01;have:=hgc _ _ h01
        have hlt:o+((m-1)*te.size+(te.size-1))<arr.size:=by
         apply Decidable.byContradiction;intro hn;rw[cN i4] at this;cases this
        have hmul:m*te.size=(m-1)*te.size+te.size:=by
         have h9:=Nat.add_mul (m-1) 1 te.size;rw[Nat.sub_add_cancel hm0,Nat.one_mul] at h9;exact h9
        omega
       have hD:∀i,i<m->∀x∈(D i).weights P e,x<=B:=by
        intro i hi x hxw;refine hwt x ?_;rw[hyx];show x∈DataW.weights P t _;rw[DataW.weights,hu];simp only;refine ad _ ?_;by_cases hil:i<len
        ·exact d3 _ (ng hxw (mem_map.2 ⟨i,mem_range.2 hil,rfl⟩))
        ·exact cb _ (ng hxw (mem_map.2 ⟨i-len,mem_range.2 i4,by rw[show len+(i-len)=i by omega]⟩))
       have hlenB:len<=B:=by
        have:=hwt ((len+(m-len))*P.bytesOf e) (by
         rw[hyx];show _∈DataW.weights P t _;rw[DataW.weights,hu]
         simp)
        have h2:len+(m-len)<=(len+(m-len))*P.bytesOf e:=Nat.le_mul_of_pos_right _ hby;omega
       obtain⟨F,hF⟩:=choose_lt (α:=List Value×List DV) (n:=len) (p:=λi x=>x.1.length=te.size/\(∀k,k<te.size->w.cell? ⟨b,o+(i*te.size+k),none⟩=x.1[k]?)/\kr B te x.2/\nr w x.2 x.1) (λi hi=>by
        obtain⟨cs',g1,g2,y,g3,g4⟩:=hcell i i4;obtain⟨ds,k1,k2⟩:=vA k e te he n' i4 cs' _ g3 (by rw[g4];exact hD i i4)
        exact⟨(cs',ds),g1,g2,k1,k2⟩)
       have hw1:∀r∈(bg len).map λi=>(F i).1,r.length=te.size:=by
        intro r hr;obtain⟨i,hi,rfl⟩:=mem_map.1 hr;exact(hF i (mem_range.1 hi)).1
       refine⟨[.sl false len te.size ((bg len).map λi=>(F i).2).flatten],?_,?_⟩
       ·rw[kr];refine⟨false,(bg len).map λi=>(F i).2,by rw[b9,ca],by rw[b9,ca];exact hlenB,λr hr=>?_⟩;obtain⟨i,hi,rfl⟩:=mem_map.1 hr;exact(hF i (mem_range.1 hi)).2.2.1
       ·rw[eb];refine⟨_,_,rfl,?_,by rw[iX]⟩;rw[Ey];refine .inr ⟨rfl,_,m,rfl,hl,?_⟩
        rcases d5 len with hl0 | hl0
        ·subst hl0;exact .inl ⟨rfl,rfl,.inl rfl⟩
        ·refine .inr ⟨hl0,rfl,arr,e',f,((bg len).map λi=>(F i).1).flatten,hb',hsz,?_,?_,nr.rows λi hi=>(hF i hi).2.2.2⟩
         ·have:∀l:List Nat,(∀i∈l,i<len)->(l.map λi=>(F i).1).flatten.length=l.length*te.size:=by
           intro l
           induction l with
           | nil=>intro _;simp
           | cons a l ih=>
            intro hl;rw[ce,bc,li,ih λi hi=>hl i (ad _ hi),(hF a (hl a (aj ..))).1,i7,ci];omega
          rw[this _ λi hi=>mem_range.1 hi,ca]
         ·intro j u hu;obtain⟨i,q,r,rfl,hq,hr,hru⟩:=E7 hw1 hu;rw[bd] at hr
          cases hri:(bg len)[i]? with
          | none=>rw[hri] at hr;cases hr
          | some i'=>
           rw[hri] at hr;have hil:=(rt hri).1;rw[ca] at hil;rw[List.getElem?_range hil] at hri;cases hri;cases hr;exact hgc _ _ (((hF i hil).2.1 q hq).trans hru)
   | struct fs=>
    simp only at h
    cases hfs:gj P (ga P k) fs.toList 0 with
    | none=>rw[hfs] at h;cases h
    | some ts=>
     rw[hfs] at h;simp only[m7] at h;obtain⟨hb,h⟩:=aI h;cases h;have hb:=cU hb;obtain⟨xs,n',hnn,hyx,hl,hlen,hf⟩:=DataW.trod_struct hu hy
     obtain⟨ds,k1,k2⟩:=vT (cs:=c) (m:=k) (λt ty ht n hn c y hy hw=>vA k t ty ht n hn c y hy hw) fs.toList 0 ts hfs i4 (λf hfm=>by
      obtain⟨i,hi⟩:=List.mem_iff_getElem?.1 hfm
      have hi':fs[i]?=some f:=by rw[<-aa];exact hi
      have:=hf i f hi'
      have hil:i<fs.size:=by
       have:=(rt hi).1;rw[b7] at this;exact this
      rw[jp i4] at this;refine⟨n',_,by omega,this,λx hx=>hwt x ?_⟩;rw[hyx];show x∈DataW.weights P t _;rw[DataW.weights,hu];simp only
      exact DataW.weights_mem_each (j:=i) (by rw[bd,hi];rfl) (by rw[bd,jp (show i<xs.length by omega)];rfl) x hx)
     rw[fv] at k2;exact⟨ds,by rw[kr];exact k1,k2⟩
   | _=>cases h
variable{v:Value}
def Pf{d:DV}:nr w [d] [v]↔Wd w d v:=by
 rw[eb];constructor
 ·rintro⟨u,r,e,h,_⟩;simp only[mt] at e;rw[e.1];exact h
 ·intro h;exact⟨v,[],rfl,h,by rw[iX]⟩
def Qe{t:Ty}(h:kr B t ds)(hn:∀ts,t≠.st ts):∃d,ds=[d]:=by
 have:=Qd h hn
 match ds,this with
 | [d],_=>exact⟨d,rfl⟩
def oq{t:TypeId}{tys:Nat->Ty}{d:DataW Hh}{ps:List MemPlace}{base:Nat}(ht:∀j,ga P (j+12) t=some (tys j))(hval:Value.okWide P w .any base t v)(hd:DataW.Trod enc P w 0 (λ_=>true) held t v d ps)(hwt:∀x∈d.weights P t,x<=B):∃j dv,TU B (tys j) dv/\Wd w dv v:=by
 obtain⟨fuel,hf⟩:=hd;refine⟨fuel,?_⟩;have ht:=ht fuel;generalize tys fuel=ty at ht ⊢;obtain⟨ds,k1,k2⟩:=vA (fuel+12) t ty ht fuel i4 _ _ hf hwt
 have hflat:∀{v:Value},v.cells.toList=[v]->(∀ts,ty≠.st ts)->nr w ds v.cells.toList->∃dv,TU B ty dv/\Wd w dv v:=by
  intro v he hn k2;obtain⟨dv,rfl⟩:=Qe k1 hn;rw[he,Pf] at k2;refine⟨dv,?_,k2⟩
  cases ty with
  | st ts=>exact un rfl (hn ts)
  | _=>exact k1
 unfold ga at ht
 cases hu:P.underlying t with
 | none=>rw[hu] at ht;cases ht
 | some u=>
  rw[hu] at ht
  cases u with
  | bool=>obtain⟨b,rfl⟩:=okWide_bool hu hval;cases ht;exact hflat rfl (λts h=>by cases h) k2
  | int i=>obtain⟨b,rfl⟩:=okWide_int hu hval;cases ht;exact hflat rfl (λts h=>by cases h) k2
  | string=>obtain⟨b,rfl⟩:=okWide_string hu hval;cases ht;exact hflat rfl (λts h=>by cases h) k2
  | slice e=>
   obtain⟨a,l,c,rfl⟩:=okWide_slice hu hval;simp only at ht
   cases he:ga P (fuel+11) e with
   | none=>rw[he] at ht;cases ht
   | some te=>
    rw[he] at ht;simp only[m7] at ht;obtain⟨_,ht⟩:=aI ht;cases ht;exact hflat rfl (λts h=>by cases h) k2
  | struct fs=>
   obtain⟨cs,rfl,_⟩:=okWide_struct hu hval;simp only at ht
   cases hfs:gj P (ga P (fuel+11)) fs.toList 0 with
   | none=>rw[hfs] at ht;cases ht
   | some ts=>
    rw[hfs] at ht;simp only[m7] at ht;obtain⟨_,ht⟩:=aI ht;cases ht;rw[kr] at k1;refine⟨.ag ds,⟨ds,rfl,k1⟩,?_⟩;rw[Mw];exact⟨cs,rfl,k2⟩
  | _=>cases ht
end
section
variable {B:Nat} {ts:List Ty} {ds:List DV} {s:Bool} {h:H}
def gT(hk:dY B [] ds):ds=[]:=by rw[dY] at hk;exact hk
def cY(hk:dY B (.str::ts) ds):∃(x:List Nat) (r:List DV),ds=.fl (.str x)::r/\(∀b∈x,b<256)/\x.length<=B/\dY B ts r:=by
 rw[dY] at hk;obtain⟨d1,d2,rfl,h1,h2⟩:=hk;rw[kr] at h1;obtain⟨x,rfl,h3,h4⟩:=h1;exact⟨x,d2,rfl,h3,h4,h2⟩
def dI(hk:dY B (.int k::ts) ds):∃(n:Int) (r:List DV),ds=.fl (.int k n)::r/\(Lit.int k n).wf=true/\dY B ts r:=by
 rw[dY] at hk;obtain⟨d1,d2,rfl,h1,h2⟩:=hk;rw[kr] at h1;obtain⟨n,rfl,h3⟩:=h1;exact⟨n,d2,rfl,h3,h2⟩
def Lu(hk:dY B (.bool::ts) ds):∃(b:Bool) (r:List DV),ds=.fl (.bool b)::r/\dY B ts r:=by
 rw[dY] at hk;obtain⟨d1,d2,rfl,h1,h2⟩:=hk;rw[kr] at h1;obtain⟨b,rfl⟩:=h1;exact⟨b,d2,rfl,h2⟩
def iw{t:Ty}(hk:dY B (.sl t::ts) ds):∃(nl:Bool) (rows:List (List DV)) (r:List DV),ds=.sl nl rows.length t.size rows.flatten::r/\rows.length<=B/\(∀x∈rows,kr B t x)/\dY B ts r:=by
 rw[dY] at hk;obtain⟨d1,d2,rfl,h1,h2⟩:=hk;rw[kr] at h1;obtain⟨nl,rows,rfl,h3,h4⟩:=h1;exact⟨nl,rows,d2,rfl,h3,h4,h2⟩
def FT:∀{us:List Ty} {d1 d2:List DV},dY B us d1->dY B ts d2->dY B (us++ts) (d1++d2)
 | [],d1,d2,h1,h2=>by rw[dY] at h1;subst h1;exact h2
 | u::us,d1,d2,h1,h2=>by
  rw[dY] at h1;obtain⟨e1,e2,rfl,h3,h4⟩:=h1;show dY B (u::(us++ts)) _;rw[dY];exact⟨e1,e2++d2,List.append_assoc ..,h3,FT h4 h2⟩
def tL{us:List Ty}(hk:dY B (.st us::ts) ds):dY B (us++ts) ds:=by
 rw[dY] at hk;obtain⟨d1,d2,rfl,h1,h2⟩:=hk;rw[kr] at h1;exact FT h1 h2
end
def yd:Ex->Bool
 | .normal=>true
 | _=>false
def Ay:Ex->LoopState
 | .normal=>.ready
 | _=>.done
def Ax:Ex->Option Code
 | .normal=>none
 | .ret=>some .ret
 | .exit i=>some (.exit i)
 | .goto l=>some (.goto l)
noncomputable def LS(t:Tr AV):Nat->AV:=λi=>(t.get i).getD lK
def Rx(id:Nat)(Q:AV->H->Prop):Ex->gZ->Prop:=λex st=>st.ds=[]/\∃ls p t n ps a b d,st.h.pG id=some (ls,p,t,n,ps,a,b,d)/\Q (.bool (yd ex)) (st.h.set id (.loop (Ay ex) (Ax ex) t n ps a b d))
def O9(P:Program)(id:Nat)(b:Code)(Q:AV->H->Prop):Ex->gZ->Prop:=λex st=>ex=.normal/\∃p t n ps a' b' d,st.h.pG id=some (.ready,p,t,n,ps,a',b',d)/\
 lL P (some id) b ⟨st.f,st.n,st.h.set id (.loop .busy p t n ps a' b' d),st.ds⟩ (Rx id Q)
def dZ.yield{P:Program}{id:Nat}{args:List AV}{h:H}{Q:AV->H->Prop}{pend:Option Code}{t:Tr AV}{n:Nat}{ps:Array Tmp}{a b:Code}{dd:Nat}{t1:Tr AV}{f1:Nat->AV}
 (hlo:h.pG id=some (.ready,pend,t,n,ps,a,b,dd)) (hsz:ps.toList.length=args.length) (ht1:jo (ps.toList.zip args) n t=some t1) (hf1:∀i,i<n->f1 i=LS t1 i)
 (hw:lL P (some id) a ⟨f1,n,h,[]⟩ (O9 P id b Q)):dZ P (.yield id) args h Q:=by
 intro σ w p args' hp hv hr;obtain⟨hob,q,hq,f,tmps,qd,hwp,hqd,hT⟩:=ue hr hlo;rw[hp] at hq;cases hq
 have hsz':args'.size=ps.size:=by have:=hv.1;simp at this hsz;omega
 rw[Me hwp hsz'];intro m;refine roundIn_of_wpIn trivial ?_
 have hT1:TR σ t1 n ((ps.zip args').foldl (λtmps (x:Tmp×Value)=>tmps.setIfInBounds x.1 x.2) tmps):=by
  have:=uc ps.toList args args'.toList n t t1 tmps ht1 hv hT;rw[<-Array.foldl_toList,Array.toList_zip];exact this
 have hTF:TF σ f1 n ((ps.zip args').foldl (λtmps (x:Tmp×Value)=>tmps.setIfInBounds x.1 x.2) tmps):=⟨hT1.1,λi hi=>by rw[hf1 i hi];exact hT1.2 i⟩;have hassign:=hw (Fence.wide.inRound p.b) m σ { tmps:=(ps.zip args').foldl (λtmps (x:Tmp×Value)=>tmps.setIfInBounds x.1 x.2) tmps,defers:=[] } w ⟨hTF,hr,trivial⟩ ⟨p,hp,rfl⟩;refine wpIn_mono hassign ?_;rintro e a1 w1 ⟨ex1,st1,⟨rfl,pend2,t2,n2,ps2,a2,b2,dd2,hlo2,hb2⟩,hex1,σ1,hs1,hE1,hn1⟩;have:e=.normal:=hex1;subst this;obtain⟨hob2,q2,hq2,f2,tmps2,qd2,hw2,hqd2,hT2⟩:=ue hs1.h hlo2;rw[hE1.le _ _ hp] at hq2;cases hq2;have hbegin:=xT (P:=P) hw2 rfl;obtain⟨s1,s2⟩:=hs1.h.jO (o':=.loop .busy pend2 t2 n2 ps2 a2 b2 dd2) (ob:=.loop { state:=.busy,pending:=pend2,fn:=f2,tmps:=tmps2,params:=ps2,assign:=a2,body:=b2,defers:=qd2.b }) hob2 rfl rfl (hE1.le _ _ hp) ⟨f2,tmps2,qd2,rfl,hqd2,hT2⟩;refine⟨_,hbegin,?_⟩;have hbody:=hb2 (Fence.wide.inRound p.b) m σ1 a1 _ ⟨hs1.t,s1,hs1.ds⟩ ⟨p,hE1.le _ _ hp,rfl⟩;refine wpIn_mono hbody ?_;rintro e3 a3 w3 ⟨ex3,st3,⟨hds3,ls4,p4,t4,n4,ps4,a4,b4,dd4,hlo4,hQ⟩,hex3,σ3,hs3,hE3,hn3⟩;have hE13:=(hE1.trans s2).trans hE3;obtain⟨hob4,q4,hq4,f4,tmps4,qd4,hw4,hqd4,hT4⟩:=ue hs3.h hlo4;rw[hE13.le _ _ hp] at hq4;cases hq4
 have fin:∀(s:LoopState) (j:Option Code) (r:Bool),Q (.bool r) (st3.h.set id (.loop s j t4 n4 ps4 a4 b4 dd4))->r=j.isNone->s=(if j.isNone then .ready else .done)->
  ∃v w'',(Instr.endRound p.b j).run P w3=.ok v w''/\∃v',Ending.returned v=.returned v'/\Er σ h w Q v' w'':=by
  intro s j r e1 e2 e3;obtain⟨u1,u2⟩:=hs3.h.jO (o':=.loop s j t4 n4 ps4 a4 b4 dd4) (ob:=.loop { state:=s,pending:=j,fn:=f4,tmps:=tmps4,params:=ps4,assign:=a4,body:=b4,defers:=qd4.b }) hob4 rfl rfl (hE13.le _ _ hp) ⟨f4,tmps4,qd4,rfl,hqd4,hT4⟩;refine⟨_,_,CH hw4 j,_,rfl,.bool r,_,e1,σ3,by rw[e2];exact .bool _,?_,?_⟩
  ·rw[<-e3];exact u1
  ·rw[<-e3];exact hE13.trans u2
 cases ex3 with
 | normal=>
  have:e3=.normal:=hex3;subst this;exact fin _ _ _ hQ rfl rfl
 | ret=>
  have:e3=.ret:=hex3;subst this;exact fin _ _ _ hQ rfl rfl
 | exit i=>
  have:e3=.exit i:=hex3;subst this;exact fin _ _ _ hQ rfl rfl
 | goto l=>
  have:e3=.goto l:=hex3;subst this;exact fin _ _ _ hQ rfl rfl
def Ms(P:Program)(ro:Option Nat)(f:Nat->AV)(n:Nat)(ds:List jv)(id:Nat)(Q:Ex->gZ->Prop)(h':H):Prop:=∃ls p' t' m' ps' a' b' d',h'.pG id=some (ls,p',t',m',ps',a',b',d')/\ls≠.busy/\
 match p' with
 | none=>Q .normal ⟨f,n,h'.set id (.loop .exhausted none t' m' ps' a' b' d'),ds⟩
 | some c=>lL P ro c ⟨f,n,h'.set id (.loop .exhausted (some c) t' m' ps' a' b' d'),ds⟩ Q
def lL.rangeFunc{P:Program}(hng:sP P){ro:Option Nat}{g:Operand}{ps:Array Tmp}{assign body:Code}{f:Nat->AV}{n:Nat}{h:H}{ds:List jv}{Q:Ex->gZ->Prop}{fid:FuncId}{fn':Func}{first cap:List AV}{id:Nat}{h1:H}{ds1:List jv}
 (hg:ev (ei f n) g=some (.fn (.func fid) first cap)) (hfn:P.funcs[fid]?=some fn') (hb:fn'.body.isSome=true) (hen:CI ro ps assign body ⟨ei f n,n,h,ds⟩=some (id,⟨ei f n,n,h1,ds1⟩)) {Q1:AV->H->Prop}
 (hc:dZ P (.func fid) (first++[.fn (.yield id) [] []]++cap) h1 Q1) (hk:∀v h',Q1 v h'->Ms P ro f n ds1 id Q h'):lL P ro (.rangeFunc g ps assign body) ⟨f,n,h,ds⟩ Q:=by
 intro F m σ a w hs hF;have hgV:=hs.sr.t.ev _ _ hg;refine wpIn_rangeFunc λfn _=>?_;obtain⟨lb,mark,w1,σ1,p,e1,hp,rfl,hs1,hE1,hn1⟩:=K1 (P:=P) hF hs.sr hen fn;generalize hgv:a.eval g=gv at hgV
 cases hgV with
 | @fn _ _ _ fs' cs' hfy k1 k2 k3 k4=>
  have hfs:VL σ1 first fs'.toList:=⟨by simpa using k1,λi a v x y=>(k2 i a v x (by simpa using y)).mono hE1.le⟩
  have hcs:VL σ1 cap cs'.toList:=⟨by simpa using k3,λi a v x y=>(k4 i a v x (by simpa using y)).mono hE1.le⟩
  have hargs:VL σ1 (first++[.fn (.yield id) [] []]++cap) (fs'++#[Value.func (.yield p.b) #[] #[]]++cs').toList:=by
   simp only[be];exact(hfs.append (.cons (.yield hp) .nil)).append hcs
  have hfine:=hc σ1 w1 _ hargs hs1.h
  have hev:#[Operand.const (Value.func (.yield p.b) #[] #[])].map a.eval=#[Value.func (.yield p.b) #[] #[]]:=by simp[Act.eval]
  have hres:(resolve a.eval (rangeCall g p.b) 0).run P w1=.ok { target:=.fn (.func fid) cs',args:=fs'++#[Value.func (.yield p.b) #[] #[]] } w1:=by
   simp only[resolve,hgv,Deferred.ofValue,m9,hev]
  have hcall:=ec hng hfn hb (fs'++#[Value.func (.yield p.b) #[] #[]]++cs') w1;rw[hcall] at hfine;refine⟨p.b,mark,w1,_,w1,fid,_,w1,e1,hres,λf' _=>hF.fn f',by simpa only[invoke] using hcall,λh=>by rw[hF.depth] at h;simp at h,?_⟩;have h2:=hF.calls (n:=m-1) hfine;refine⟨h2.1,λcs hr=>?_⟩;obtain⟨e,w3,fr,⟨v,rfl,av,h',hQ1,σ3,hV,hh3,hE3⟩,h3⟩:=h2.2 cs hr;refine⟨.returned v,w3,fr,?_,h3⟩;obtain⟨ls,p',t',m',ps',a',b',d',hlo,hnb,hq⟩:=hk _ _ hQ1;obtain⟨ho',q,hq',f0,tm0,qd,g1,g2,g3⟩:=ue hh3 hlo;rw[hE3.le _ _ hp] at hq';cases hq'
  obtain⟨s1,s2⟩:=hh3.jO (o':=.loop .exhausted p' t' m' ps' a' b' d') (ob:=.loop { state:=.exhausted,pending:=p',fn:=f0,tmps:=tm0,params:=ps',assign:=a',body:=b',defers:=qd.b }) ho' rfl rfl (hE3.le _ _ hp)
   ⟨f0,tm0,qd,rfl,g2,g3⟩
  have hend:(Instr.endLoop p.b).run P w3=.ok p' { w3 with heap:=w3.heap.setIfInBounds p.b (.loop { state:=.exhausted,pending:=p',fn:=f0,tmps:=tm0,params:=ps',assign:=a',body:=b',defers:=qd.b }) }:=by
   have hbz:(ls==LoopState.busy)=false:=by cases ls<;>first | rfl | exact un rfl hnb
   simp only[Instr.endLoop,Instr.getLoop,ne,cw g1 ge,pp,m9,hbz,ba,if_false,eh g1 ge]
  refine⟨p',_,hend,?_⟩;have hext:=(hE1.trans hE3).trans s2
  have hsf:SF σ3 ⟨f,n,h'.set id (.loop .exhausted p' t' m' ps' a' b' d'),ds1⟩ { a with defers:=mark++a.defers } { w3 with heap:=w3.heap.setIfInBounds p.b (.loop { state:=.exhausted,pending:=p',fn:=f0,tmps:=tm0,params:=ps',assign:=a',body:=b',defers:=qd.b }) }:=
   ⟨hs.t.mono (λi q hi=>hE3.le _ _ (hE1.le _ _ hi)),s1,hs1.ds.mono hE3.le⟩
  cases p' with
  | none=>exact⟨_,_,hq,rfl,σ3,hsf,hext,rfl⟩
  | some c=>exact lL.wide (st:=⟨f,n,_,ds1⟩) hq hsf (hF.mono hext.le) hext rfl
def lL.tP{P:Program}(hng:sP P){g:Operand}{ps:Array Tmp}{assign body:Code}{f:Nat->AV}{n:Nat}{O:Tr AO}{F:Tr (Nat×Nat)}{N lw:Nat}{ds:List jv}{Q:Ex->gZ->Prop}{fid:FuncId}{fn':Func}{first cap:List AV}
 (hg:ev (ei f n) g=some (.fn (.func fid) first cap)) (hfn:P.funcs[fid]?=some fn') (hb:fn'.body.isSome=true) {Q1:AO->AV->H->Prop}
 (hc:∀lp,lp=AO.loop .ready none (ei f n) n ps assign body N->dZ P (.func fid) (first++[.fn (.yield (N+1)) [] []]++cap) ⟨(O.put N (some (.ml false))).put (N+1) (some lp),F,N+2,lw⟩ (Q1 lp))
 (hk:∀lp v h',lp=AO.loop .ready none (ei f n) n ps assign body N->Q1 lp v h'->Ms P none f n ({ fn:=none,EE:=N,args:=[],cap:=[] }::ds) (N+1) Q h'):lL P none (.rangeFunc g ps assign body) ⟨f,n,⟨O,F,N,lw⟩,ds⟩ Q:=
 lL.rangeFunc hng hg hfn hb rfl (hc _ rfl) λv h' h1=>hk _ v h' rfl h1
inductive SV where
 | any
 | a (v:AV)
 | sl (n e:Nat) (cs:List SV)
 | im (ks:List AV) (vs:List SV)
 | ip (cs:List SV)
 | ptr (o off:Nat)
 | map (o:Nat)
 | buf (o n e:Nat) (c:Option Nat)
 | sub (o off n e:Nat) (c:Option Nat)
 | e0 (e:Nat)
 | ag (cs:List SV)
 | cx (vs:List SV)
 | fn (g:FuncId) (first cap:List SV)
 | iface (t:TypeId) (v:SV)
 deriving Inhabited
abbrev Fm:=List (Nat×SV)
def aK:Fm->Nat->SV
 | [],_=>.any
 | (d,v)::l,i=>if d=i then v else aK l i
structure jx where
 id:Nat
 t:Tr AV
 n:Nat
 ps:Array Tmp
 a:Code
 b:Code
 d:Nat
inductive SO where
 | cells (cs:List SV)
 | map (ks:List AV) (vs:List SV) (b:Option (List Nat×Nat))
 | iter (m:SV) (bs:List Nat) (c:Nat) (pos:List Nat)
 | oE (ks:List AV) (vs:List SV) (bs:List Nat) (c:Nat) (pos:List Nat)
 | gone
 | loop (c:jx) (ls:LoopState) (p:Option Code) (f:List (Nat×SV))
 | ml (N:Nat)
structure Loc where
 id:Nat
 bV:Nat
 x:Nat
 y:Nat
abbrev j6:=Nat->Option AO
def nP(l:List (AV×AV×Nat))(c:Nat):Prop:=(l.map (·.2.2)).Nodup/\∀e∈l,e.2.2<c
def Pb(l:List (AV×AV×Nat))(c:Nat)(ks:List AV)(b:Option (List Nat×Nat)):Prop:=l.map (·.1)=ks/\nP l c/\∀p,b=some p->l.map (·.2.2)=p.1/\c=p.2
def vw(ρ:j6)(id:Nat):Option (List AV):=match ρ id with
 | some (.cells cs _)=>some cs
 | some (.ro cs)=>some cs
 | _=>none
mutual
def GS(ρ:j6):SV->AV->Prop
 | .any,_=>True
 | .a v,x=>x=v
 | .sl n e cs,x=>(n=0/\cs=[]/\∃o e' c,x=.slice o 0 e' c/\(o=none->c=some 0)/\(o≠none->e'=e))\/
  (∃id off cap row,x=.slice (some (id,off)) n e cap/\vw ρ id=some row/\off+n*e<=row.length/\jR ρ cs ((row.drop off).take (n*e)))
 | .im ks vs,x=>∃id l c,x=.map (some id)/\ρ id=some (.map l c)/\Pb l c ks none/\jR ρ vs (l.map (·.2.1))
 | .ip cs,x=>∃id off row r,x=.ptr (some (id,off))/\vw ρ id=some row/\off+r<=row.length/\jR ρ cs ((row.drop off).take r)
 | .ptr _ _,_=>False
 | .map _,_=>False
 | .buf _ _ _ _,_=>False
 | .sub _ _ _ _ _,_=>False
 | .e0 e,x=>∃o e',x=.slice o 0 e' (some 0)/\(o≠none->e'=e)
 | .ag cs,x=>∃aS,x=.agg aS/\jR ρ cs aS
 | .cx cs,x=>∃aS,x=.cx aS/\jR ρ cs aS
 | .fn g first cap,x=>∃xs ys,x=.fn (.func g) xs ys/\jR ρ first xs/\jR ρ cap ys
 | .iface t v,x=>∃y,x=.iface t y/\GS ρ v y
def jR(ρ:j6):List SV->List AV->Prop
 | [],aS=>aS=[]
 | d::ds,aS=>∃a r,aS=a::r/\GS ρ d a/\jR ρ ds r
end
mutual
def VS(θ:Nat->Loc)(ρ:j6):SV->AV->Prop
 | .any,_=>True
 | .a v,x=>x=v
 | .sl n e cs,x=>GS ρ (.sl n e cs) x
 | .im ks vs,x=>GS ρ (.im ks vs) x
 | .ip cs,x=>GS ρ (.ip cs) x
 | .ptr o off,x=>x=.ptr (some ((θ o).id,off))
 | .map o,x=>x=.map (some (θ o).id)
 | .buf o n e c,x=>x=.slice (some ((θ o).id,0)) n e c
 | .sub o off n e c,x=>x=.slice (some ((θ o).id,off)) n e c
 | .e0 e,x=>∃o e',x=.slice o 0 e' (some 0)/\(o≠none->e'=e)
 | .ag cs,x=>∃aS,x=.agg aS/\c9 θ ρ cs aS
 | .cx cs,x=>∃aS,x=.cx aS/\c9 θ ρ cs aS
 | .fn g first cap,x=>∃xs ys,x=.fn (.func g) xs ys/\c9 θ ρ first xs/\c9 θ ρ cap ys
 | .iface t v,x=>∃y,x=.iface t y/\VS θ ρ v y
def c9(θ:Nat->Loc)(ρ:j6):List SV->List AV->Prop
 | [],aS=>aS=[]
 | d::ds,aS=>∃a r,aS=a::r/\VS θ ρ d a/\c9 θ ρ ds r
end
section
variable {θ:Nat->Loc} {ρ:j6} {x:AV}
variable{aS:List AV}
def eU:jR ρ [] aS↔aS=[]:=by rw[jR]
def dO{d:SV}{ds:List SV}:jR ρ (d::ds) aS↔∃a r,aS=a::r/\GS ρ d a/\jR ρ ds r:=by rw[jR]
def bj:c9 θ ρ [] aS↔aS=[]:=by rw[c9]
def aN{d:SV}{ds:List SV}:c9 θ ρ (d::ds) aS↔∃a r,aS=a::r/\VS θ ρ d a/\c9 θ ρ ds r:=by rw[c9]
def jR.length:∀{ds:List SV} {aS:List AV},jR ρ ds aS->aS.length=ds.length
 | [],aS,h=>by rw[eU] at h;subst h;rfl
 | d::ds,aS,h=>by
  rw[dO] at h;obtain⟨a,r,rfl,_,h2⟩:=h;simp[jR.length h2]
def c9.length:∀{ds:List SV} {aS:List AV},c9 θ ρ ds aS->aS.length=ds.length
 | [],aS,h=>by rw[bj] at h;subst h;rfl
 | d::ds,aS,h=>by
  rw[aN] at h;obtain⟨a,r,rfl,_,h2⟩:=h;simp[c9.length h2]
mutual
def GS.vs:∀{v:SV} {x:AV},GS ρ v x->VS θ ρ v x
 | .any,_,_=>by rw[VS];trivial
 | .a v,x,h=>by rw[VS];rw[GS] at h;exact h
 | .sl n e cs,x,h=>by rw[VS];exact h
 | .im ks vs,x,h=>by rw[VS];exact h
 | .ip cs,x,h=>by rw[VS];exact h
 | .ptr _ _,_,h=>by rw[GS] at h;exact h.elim
 | .map _,_,h=>by rw[GS] at h;exact h.elim
 | .buf _ _ _ _,_,h=>by rw[GS] at h;exact h.elim
 | .sub _ _ _ _ _,_,h=>by rw[GS] at h;exact h.elim
 | .e0 e,x,h=>by rw[GS] at h;rw[VS];exact h
 | .ag cs,x,h=>by rw[VS];rw[GS] at h;obtain⟨aS,h1,h2⟩:=h;exact⟨aS,h1,jR.vs h2⟩
 | .cx cs,x,h=>by rw[VS];rw[GS] at h;obtain⟨aS,h1,h2⟩:=h;exact⟨aS,h1,jR.vs h2⟩
 | .fn g f c,x,h=>by rw[VS];rw[GS] at h;obtain⟨xs,ys,h1,h2,h3⟩:=h;exact⟨xs,ys,h1,jR.vs h2,jR.vs h3⟩
 | .iface t v,x,h=>by rw[VS];rw[GS] at h;obtain⟨y,h1,h2⟩:=h;exact⟨y,h1,GS.vs h2⟩
def jR.vs:∀{ds:List SV} {aS:List AV},jR ρ ds aS->c9 θ ρ ds aS
 | [],aS,h=>by rw[bj];rw[eU] at h;exact h
 | d::ds,aS,h=>by
  rw[aN];rw[dO] at h;obtain⟨a,r,h1,h2,h3⟩:=h;exact⟨a,r,h1,GS.vs h2,jR.vs h3⟩
end
def BZ{ρ':j6}(hm:∀id ob,ρ id=some ob->ρ' id=some ob){row:List AV}(h:vw ρ id=some row):vw ρ' id=some row:=by
 unfold vw at h ⊢
 cases hr:ρ id with
 | none=>rw[hr] at h;cases h
 | some ob=>rw[hm id ob hr];rw[hr] at h;exact h
mutual
def GS.mono{ρ':j6}(hm:∀id ob,ρ id=some ob->ρ' id=some ob):∀{v:SV} {x:AV},GS ρ v x->GS ρ' v x
 | .any,_,_=>by rw[GS];trivial
 | .a v,x,h=>by rw[GS] at h ⊢;exact h
 | .sl n e cs,x,h=>by
  rw[GS] at h ⊢
  rcases h with h | ⟨id,off,cap,row,h1,h2,h3,h4⟩
  ·exact .inl h
  ·exact .inr ⟨id,off,cap,row,h1,BZ hm h2,h3,jR.mono hm h4⟩
 | .im ks vs,x,h=>by
  rw[GS] at h ⊢;obtain⟨id,l,c,h1,h2,h3,h4⟩:=h;exact⟨id,l,c,h1,hm _ _ h2,h3,jR.mono hm h4⟩
 | .ip cs,x,h=>by
  rw[GS] at h ⊢;obtain⟨id,off,row,r,h1,h2,h3,h4⟩:=h;exact⟨id,off,row,r,h1,BZ hm h2,h3,jR.mono hm h4⟩
 | .ptr _ _,_,h=>by rw[GS] at h;exact h.elim
 | .map _,_,h=>by rw[GS] at h;exact h.elim
 | .buf _ _ _ _,_,h=>by rw[GS] at h;exact h.elim
 | .sub _ _ _ _ _,_,h=>by rw[GS] at h;exact h.elim
 | .e0 e,x,h=>by rw[GS] at h ⊢;exact h
 | .ag cs,x,h=>by rw[GS] at h ⊢;obtain⟨aS,h1,h2⟩:=h;exact⟨aS,h1,jR.mono hm h2⟩
 | .cx cs,x,h=>by rw[GS] at h ⊢;obtain⟨aS,h1,h2⟩:=h;exact⟨aS,h1,jR.mono hm h2⟩
 | .fn g f c,x,h=>by rw[GS] at h ⊢;obtain⟨xs,ys,h1,h2,h3⟩:=h;exact⟨xs,ys,h1,jR.mono hm h2,jR.mono hm h3⟩
 | .iface t v,x,h=>by rw[GS] at h ⊢;obtain⟨y,h1,h2⟩:=h;exact⟨y,h1,GS.mono hm h2⟩
def jR.mono{ρ':j6}(hm:∀id ob,ρ id=some ob->ρ' id=some ob):∀{ds:List SV} {aS:List AV},jR ρ ds aS->jR ρ' ds aS
 | [],aS,h=>by rw[eU] at h ⊢;exact h
 | d::ds,aS,h=>by
  rw[dO] at h ⊢;obtain⟨a,r,h1,h2,h3⟩:=h;exact⟨a,r,h1,GS.mono hm h2,jR.mono hm h3⟩
end
mutual
def VS.mono{ρ':j6}(hm:∀id ob,ρ id=some ob->ρ' id=some ob):∀{v:SV} {x:AV},VS θ ρ v x->VS θ ρ' v x
 | .any,_,_=>by rw[VS];trivial
 | .a v,x,h=>by rw[VS] at h ⊢;exact h
 | .sl n e cs,x,h=>by rw[VS] at h ⊢;exact h.mono hm
 | .im ks vs,x,h=>by rw[VS] at h ⊢;exact h.mono hm
 | .ip cs,x,h=>by rw[VS] at h ⊢;exact h.mono hm
 | .ptr _ _,_,h=>by rw[VS] at h ⊢;exact h
 | .map _,_,h=>by rw[VS] at h ⊢;exact h
 | .buf _ _ _ _,_,h=>by rw[VS] at h ⊢;exact h
 | .sub _ _ _ _ _,_,h=>by rw[VS] at h ⊢;exact h
 | .e0 e,x,h=>by rw[VS] at h ⊢;exact h
 | .ag cs,x,h=>by rw[VS] at h ⊢;obtain⟨aS,h1,h2⟩:=h;exact⟨aS,h1,c9.mono hm h2⟩
 | .cx cs,x,h=>by rw[VS] at h ⊢;obtain⟨aS,h1,h2⟩:=h;exact⟨aS,h1,c9.mono hm h2⟩
 | .fn g f c,x,h=>by rw[VS] at h ⊢;obtain⟨xs,ys,h1,h2,h3⟩:=h;exact⟨xs,ys,h1,c9.mono hm h2,c9.mono hm h3⟩
 | .iface t v,x,h=>by rw[VS] at h ⊢;obtain⟨y,h1,h2⟩:=h;exact⟨y,h1,VS.mono hm h2⟩
def c9.mono{ρ':j6}(hm:∀id ob,ρ id=some ob->ρ' id=some ob):∀{ds:List SV} {aS:List AV},c9 θ ρ ds aS->c9 θ ρ' ds aS
 | [],aS,h=>by rw[bj] at h ⊢;exact h
 | d::ds,aS,h=>by
  rw[aN] at h ⊢;obtain⟨a,r,h1,h2,h3⟩:=h;exact⟨a,r,h1,VS.mono hm h2,c9.mono hm h3⟩
end
mutual
def names(o:Nat):SV->Bool
 | .ptr p _=>decide (p=o)
 | .map p=>decide (p=o)
 | .buf p _ _ _=>decide (p=o)
 | .sub p _ _ _ _=>decide (p=o)
 | .ag cs=>eI o cs
 | .cx cs=>eI o cs
 | .fn _ f c=>eI o f||eI o c
 | .iface _ v=>names o v
 | _=>false
def eI(o:Nat):List SV->Bool
 | []=>false
 | d::ds=>names o d||eI o ds
end
mutual
def VS.uj{θ':Nat->Loc}{o:Nat}(hθ:∀p,p≠o->θ' p=θ p):∀{v:SV} {x:AV},names o v=false->VS θ ρ v x->VS θ' ρ v x
 | .any,_,_,_=>by rw[VS];trivial
 | .a v,x,_,h=>by rw[VS] at h ⊢;exact h
 | .sl n e cs,x,_,h=>by rw[VS] at h ⊢;exact h
 | .im ks vs,x,_,h=>by rw[VS] at h ⊢;exact h
 | .ip cs,x,_,h=>by rw[VS] at h ⊢;exact h
 | .ptr p _,_,hn,h=>by rw[VS] at h ⊢;rw[names] at hn;rw[hθ p (wt hn)];exact h
 | .map p,_,hn,h=>by rw[VS] at h ⊢;rw[names] at hn;rw[hθ p (wt hn)];exact h
 | .buf p _ _ _,_,hn,h=>by rw[VS] at h ⊢;rw[names] at hn;rw[hθ p (wt hn)];exact h
 | .sub p _ _ _ _,_,hn,h=>by rw[VS] at h ⊢;rw[names] at hn;rw[hθ p (wt hn)];exact h
 | .e0 e,x,_,h=>by rw[VS] at h ⊢;exact h
 | .ag cs,x,hn,h=>by rw[VS] at h ⊢;rw[names] at hn;obtain⟨aS,h1,h2⟩:=h;exact⟨aS,h1,c9.uj hθ hn h2⟩
 | .cx cs,x,hn,h=>by rw[VS] at h ⊢;rw[names] at hn;obtain⟨aS,h1,h2⟩:=h;exact⟨aS,h1,c9.uj hθ hn h2⟩
 | .fn g f c,x,hn,h=>by
  rw[VS] at h ⊢;rw[names,br] at hn;obtain⟨xs,ys,h1,h2,h3⟩:=h;exact⟨xs,ys,h1,c9.uj hθ hn.1 h2,c9.uj hθ hn.2 h3⟩
 | .iface t v,x,hn,h=>by rw[VS] at h ⊢;rw[names] at hn;obtain⟨y,h1,h2⟩:=h;exact⟨y,h1,VS.uj hθ hn h2⟩
def c9.uj{θ':Nat->Loc}{o:Nat}(hθ:∀p,p≠o->θ' p=θ p):∀{ds:List SV} {aS:List AV},eI o ds=false->c9 θ ρ ds aS->c9 θ' ρ ds aS
 | [],aS,_,h=>by rw[bj] at h ⊢;exact h
 | d::ds,aS,hn,h=>by
  rw[aN] at h ⊢;rw[eI,br] at hn;obtain⟨a,r,h1,h2,h3⟩:=h;exact⟨a,r,h1,VS.uj hθ hn.1 h2,c9.uj hθ hn.2 h3⟩
end
def c9.app:∀{d1 d2:List SV} {a1 a2:List AV},c9 θ ρ d1 a1->c9 θ ρ d2 a2->c9 θ ρ (d1++d2) (a1++a2)
 | [],d2,a1,a2,h1,h2=>by rw[bj] at h1;subst h1;exact h2
 | d::ds,d2,a1,a2,h1,h2=>by
  rw[aN] at h1;obtain⟨a,r,rfl,g1,g2⟩:=h1;show c9 θ ρ (d::(ds++d2)) _;rw[aN];exact⟨a,r++a2,rfl,g1,c9.app g2 h2⟩
def c9.drop:∀(k:Nat) {ds:List SV} {aS:List AV},c9 θ ρ ds aS->c9 θ ρ (ds.drop k) (aS.drop k)
 | 0,_,_,h=>h
 | k+1,[],aS,h=>by rw[bj] at h;subst h;rw[c2,c2,bj]
 | k+1,d::ds,aS,h=>by
  rw[aN] at h;obtain⟨a,r,rfl,_,h2⟩:=h;exact c9.drop k h2
def c9.take:∀(k:Nat) {ds:List SV} {aS:List AV},c9 θ ρ ds aS->c9 θ ρ (ds.take k) (aS.take k)
 | 0,_,_,h=>by rw[cH,cH,bj]
 | k+1,[],aS,h=>by rw[bj] at h;subst h;rw[c4,c4,bj]
 | k+1,d::ds,aS,h=>by
  rw[aN] at h;obtain⟨a,r,rfl,h1,h2⟩:=h;rw[bL,bL,aN];exact⟨a,_,rfl,h1,c9.take k h2⟩
def jR.drop:∀(k:Nat) {ds:List SV} {aS:List AV},jR ρ ds aS->jR ρ (ds.drop k) (aS.drop k)
 | 0,_,_,h=>h
 | k+1,[],aS,h=>by rw[eU] at h;subst h;rw[c2,c2,eU]
 | k+1,d::ds,aS,h=>by
  rw[dO] at h;obtain⟨a,r,rfl,_,h2⟩:=h;exact jR.drop k h2
def jR.take:∀(k:Nat) {ds:List SV} {aS:List AV},jR ρ ds aS->jR ρ (ds.take k) (aS.take k)
 | 0,_,_,h=>by rw[cH,cH,eU]
 | k+1,[],aS,h=>by rw[eU] at h;subst h;rw[c4,c4,eU]
 | k+1,d::ds,aS,h=>by
  rw[dO] at h;obtain⟨a,r,rfl,h1,h2⟩:=h;rw[bL,bL,dO];exact⟨a,_,rfl,h1,jR.take k h2⟩
def c9.get:∀{ds:List SV} {aS:List AV},c9 θ ρ ds aS->∀{i:Nat} {d:SV},ds[i]?=some d->∃a,aS[i]?=some a/\VS θ ρ d a
 | [],_,_,i,d,h=>by simp at h
 | d0::ds,aS,h,i,d,hd=>by
  rw[aN] at h;obtain⟨a,r,rfl,h1,h2⟩:=h
  cases i with
  | zero=>simp only[ax,qr] at hd;subst hd;exact⟨a,rfl,h1⟩
  | succ i=>simp only[ac] at hd ⊢;exact c9.get h2 hd
def jR.get:∀{ds:List SV} {aS:List AV},jR ρ ds aS->∀{i:Nat} {d:SV},ds[i]?=some d->∃a,aS[i]?=some a/\GS ρ d a
 | [],_,_,i,d,h=>by simp at h
 | d0::ds,aS,h,i,d,hd=>by
  rw[dO] at h;obtain⟨a,r,rfl,h1,h2⟩:=h
  cases i with
  | zero=>simp only[ax,qr] at hd;subst hd;exact⟨a,rfl,h1⟩
  | succ i=>simp only[ac] at hd ⊢;exact jR.get h2 hd
def c9.set:∀{ds:List SV} {aS:List AV},c9 θ ρ ds aS->∀(i:Nat) {d:SV} {a:AV},VS θ ρ d a->c9 θ ρ (ds.set i d) (aS.set i a)
 | [],_,h,i,d,a,_=>by rw[bj] at h;subst h;rw[set_nil,set_nil,bj]
 | d0::ds,aS,h,i,d,a,hv=>by
  rw[aN] at h;obtain⟨b,r,rfl,h1,h2⟩:=h
  cases i with
  | zero=>rw[co,co,aN];exact⟨a,r,rfl,hv,h2⟩
  | succ i=>rw[cl,cl,aN];exact⟨b,_,rfl,h1,c9.set h2 i hv⟩
end
def ni(θ:Nat->Loc)(ρ:j6)(h:H)(L:Loc):SO->Prop
 | .cells cs=>∃aS,h.aW.get L.id=some (.cells aS L.bV)/\c9 θ ρ cs aS/\h.dC.get L.bV=some (L.x,L.y)
 | .map ks vs b=>∃l c,h.aW.get L.id=some (.map l c)/\Pb l c ks b/\c9 θ ρ vs (l.map (·.2.1))
 | .gone=>True
 | .iter m bs c pos=>∃kL,VS θ ρ m (.map (some kL))/\h.aW.get L.id=some (.iU (some kL) c (pos.map λj=>bs.getD j 0) c)
 | .oE ks vs bs c pos=>∃kL l,ρ kL=some (.map l c)/\Pb l c ks (some (bs,c))/\jR ρ vs (l.map (·.2.1))/\h.aW.get L.id=some (.iU (some kL) c (pos.map λj=>bs.getD j 0) c)
 | .loop c ls p f=>L.id=c.id/\h.aW.get L.id=some (.loop ls p c.t c.n c.ps c.a c.b c.d)/\∀i,i<c.n->VS θ ρ (aK f i) (LS c.t i)
 | .ml N=>L.id=N/\h.aW.get L.id=some (.ml false)
structure En where
 h:H
 pr:Nat->Prop
 pf:Nat->Prop
 lo:Nat
 w:Nat->AV
structure T1 (e:En):Prop where
 pr:∀j,e.pr j->j<e.h.next
 pf:∀j,e.pf j->j<e.h.next
 lo:∀j,¬e.pr j->e.lo<=j
 ln:e.lo<=e.h.next
structure Es (b:En) (n:Nat) (L:Loc):Prop where
 e:L.id=L.x\/L.id=L.y
 x:¬b.pr L.x/\L.x<n
 y:¬b.pr L.y/\L.y<n
 f:¬b.pf L.bV/\L.bV<n
structure xM (L M:Loc):Prop where
 xx:L.x≠M.x
 xy:L.x≠M.y
 yx:L.y≠M.x
 yy:L.y≠M.y
 f:L.bV≠M.bV
structure RS (θ:Nat->Loc) (ρ0 ρ:j6) (h0:En) (h:H) (S:List SO):Prop where
 ok:T1 h0
 nx:h0.h.next<=h.next
 ob:∀j,h0.pr j->h.aW.get j=h0.h.aW.get j
 fm:∀j,h0.pf j->h.dC.get j=h0.h.dC.get j
 lw:h0.lo<=h.low
 ln:h.low<=h.next
 obj:∀o so,S[o]?=some so->so≠.gone->Es h0 h.next (θ o)/\ni θ ρ h (θ o) so
 sep:∀o o' so so',o≠o'->S[o]?=some so->so≠.gone->S[o']?=some so'->so'≠.gone->xM (θ o) (θ o')
 row:∀id ob,ρ id=some ob->id<h.next/\h.aW.get id=some ob/\∀o so,S[o]?=some so->so≠.gone->id≠(θ o).x/\id≠(θ o).y
 mu:∀id ob,ρ id=some ob->ρ0 id=some ob\/¬h0.pr id
structure FR (θ:Nat->Loc) (ρ:j6) (f:Nat->SV) (af:Nat->AV) (n:Nat) (w:Nat->AV):Prop where
 v:∀i,VS θ ρ (f i) (if i<n then af i else w i)
 u:∀i,i<1000000->w i=lK
theorem RS.w{θ:Nat->Loc}{ρ0 ρ:j6}{h0:En}{h:H}{S:List SO}(hR:RS θ ρ0 ρ h0 h S)(w:Nat->AV):RS θ ρ0 ρ { h0 with w:=w } h S:=
 ⟨⟨hR.ok.pr,hR.ok.pf,hR.ok.lo,hR.ok.ln⟩,hR.nx,hR.ob,hR.fm,hR.lw,hR.ln,λo so h1 h2=>by
  obtain⟨⟨k1,k2,k3,k4⟩,k5⟩:=hR.obj o so h1 h2
  exact⟨⟨k1,k2,k3,k4⟩,k5⟩,hR.sep,hR.row,hR.mu⟩
end
end Go.Ev
