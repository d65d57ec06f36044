/- Lemmas of this claim, each with its conditions. -/
import Derived.Test.YtibnohghfgmahaaGreatA8
import Derived.Test.YtibnohghfgmahaaGreatA7
import Derived.Test.YtibnohghfgmahaaGreatA6
import Derived.Test.YtibnohghfgmahaaGreatA5
import Derived.Test.YtibnohghfgmahaaGreatA3
import Derived.Test.YtibnohghfgmahaaGreatA2
import Derived.ProofKit
import Derived.SizedLaws
import Derived.Carry
import Derived.Test.YtibnohghfgmahaaGreatRows
set_option linter.all false
open Go.Proofs.Tryz (prog func3)
open List (mem_cons mem_singleton mem_append mem_filter contains_iff_mem mem_map mem_range all_eq_true filter_eq_nil_iff any_eq_true mem_flatMap Perm map_map)
open Prod (ext fst snd)
open Nat (ble)
open List renaming mem_cons_self -> ac, mem_cons_of_mem -> af, mem_of_getElem? -> aj, filter_cons -> ap, getElem?_eq_getElem -> ax, map_cons -> aO, getD_eq_getElem?_getD -> aX, mem_map_of_mem -> ba, length_cons -> bb, mem_append_left -> bc, map_congr_left -> bd, flatMap_cons -> be, filter_filter -> bi, filterMap_cons -> bt, foldl_cons -> bv, length_map -> bw, pairwise_cons -> bW, zip_cons_cons -> b0, filter_congr -> b7, length_set -> b8, cons_append -> b9, filter_append -> ca, length_filter_le -> cc, mem_append_right -> cd, getElem?_append_right -> cf, find?_cons -> ci, range -> ck, length_append -> cp, append_nil -> ct, append_assoc -> cv, perm_ext_iff_of_nodup -> c0, getElem?_zip_eq_some -> dd, nil_append -> dt, sum_cons -> dv, map_nil -> d9, getElem?_set_self -> eg, take_of_length_le -> el, set_append_right -> er, getElem?_set_ne -> e6, ext_getElem? -> fo, getElem?_set -> fr, flatMap_def -> fu, filter_map -> f6, nodup_cons -> f7, of_mem_zip -> f8, range_succ -> f9, drop_zero -> gd, length -> ge, takeWhile -> gm
open Bool renaming and_eq_true -> ad, not_eq_true' -> ay, false_ne_true -> bh, or_eq_true -> dc, false_eq_true -> d6, not_eq_false' -> d7, not_eq_true -> em, or_eq_false_iff -> ey, and_comm -> fm, not_false -> gc, false_or -> gt, true_and -> gv
open Nat renaming le_refl -> bk, strongRecOn -> cl, sub_self -> dD, zero_le -> eb, zero_add -> et, not_lt_zero -> fy, reduceAdd -> go, beq_refl -> g5, le_total -> g6, ne_of_lt -> g7
open Int renaming le_trans -> cb, le_refl -> ce, toNat_of_nonneg -> e5, toNat_natCast -> fd
open Option renaming bind_some -> d8, map_some -> ex
open Go.Proofs.Tryz renaming checked -> f5
namespace Go.Proofs
open Go.Ev
set_option maxRecDepth 100000
structure PR (c:List KKind) (F:List Nat->Option PartM) (p:PartM):Prop where
 r:rightN c p=true
 s:p.into=[]↔p.slot=[]
 h:p.into≠[]->∃h,F p.into=some h/\p.scrapped=false/\h.scrapped=false/\takes8 c h.kind p.slot p.kind=true
def Free(p q:PartM):Prop:=p.into≠[]->¬(q.into=p.into/\q.slot=p.slot)
def Free.symm{p q:PartM}(h:Free p q):Free q p:=λk e=>h (by rw[e.1];exact k) ⟨e.1.symm,e.2.symm⟩
def host_iff{c:List KKind}{t:List (SeatM×Bool)}{p:PartM}(o:Option PartM):hostV c t p o=true↔(getM false ⟨p.into,p.slot⟩ t=false/\∃h,o=some h/\p.scrapped=false/\h.scrapped=false/\takes8 c h.kind p.slot p.kind=true):=by
 cases o with
 | none=>exact⟨λh=>(by cases h),λ⟨_,h,k,_⟩=>(by cases k)⟩
 | some h=>
  unfold hostV;simp only[Option.some.injEq,exists_eq_left'];generalize getM false ⟨p.into,p.slot⟩ t=a;generalize p.scrapped=b;generalize h.scrapped=d;generalize takes8 c h.kind p.slot p.kind=e;cases a<;>cases b<;>cases d<;>cases e<;>simp
def parts_iff{c:List KKind}{ps:List PartM}:∀{l:List PartM} {t:List (SeatM×Bool)},partsV c ps (atM 0 [] ps) t l=true↔(∀p∈l,PR c (findM ps) p/\(p.into≠[]->getM false ⟨p.into,p.slot⟩ t=false))/\l.Pairwise Free
 | [],t=>⟨λ_=>⟨λp hp=>(by cases hp),.nil⟩,λ_=>rfl⟩
 | p::l,t=>by
  have ih:=λ{t}=>parts_iff (c:=c) (ps:=ps) (l:=l) (t:=t);rw[partsV,List.pairwise_cons,Bool.and_eq_true,Bool.and_eq_true];by_cases hi:p.into=[]
  ·rw[ut hi,ab,ih];constructor
   ·rintro⟨h1,h2,h3,h4⟩
    have hs:p.slot=[]:=by simpa using h2
    refine⟨λq hq=>?_,λq _ k=>t7 hi k,h4⟩
    rcases List.mem_cons.1 hq with rfl | hq
    ·exact⟨⟨h1,⟨λ_=>hs,λ_=>hi⟩,λk=>t7 hi k⟩,λk=>t7 hi k⟩
    ·exact h3 q hq
   ·rintro⟨h1,_,h4⟩;have h0:=h1 p List.mem_cons_self;exact⟨h0.1.r,by rw[ut (h0.1.s.1 hi)];rfl,λq hq=>h1 q (List.mem_cons_of_mem _ hq),h4⟩
  ·rw[un hi,ah,Bool.and_eq_true,ih,getP_find,host_iff];constructor
   ·rintro⟨h1,h2,⟨h3,h3'⟩,h4,h5⟩
    have hs:¬p.slot=[]:=by simpa using h2
    refine⟨λq hq=>?_,λq hq k e=>?_,h5⟩
    ·rcases List.mem_cons.1 hq with rfl | hq
     ·exact⟨⟨h1,⟨λk=>t7 k hi,λk=>t7 k hs⟩,λ_=>h3'⟩,λ_=>h3⟩
     ·refine⟨(h4 q hq).1,λk=>?_⟩;have:=(h4 q hq).2 k;rw[cz] at this;split at this
      ·cases this
      ·exact this
    ·have:=(h4 q hq).2 (by rw[e.1];exact k);rw[cz,t8 (by rw[e.1,e.2])] at this;cases this
   ·rintro⟨h1,h2,h5⟩;have h0:=h1 p List.mem_cons_self;refine⟨h0.1.r,?_,⟨h0.2 hi,h0.1.h hi⟩,λq hq=>⟨(h1 q (List.mem_cons_of_mem _ hq)).1,λk=>?_⟩,h5⟩
    ·rw[un λk=>hi (h0.1.s.2 k)];rfl
    ·rw[cz,ul,(h1 q (List.mem_cons_of_mem _ hq)).2 k];intro e;exact h2 q hq hi ⟨congrArg SeatM.into e,congrArg SeatM.slot e⟩
def ord_pw:∀{ps:List PartM},ordB (ps.map PartM.name)=true->ps.Pairwise λp q=>db p.name q.name=true
 | [],_=>.nil
 | y::l,h=>.cons (λp hp=>ordB_lt (a:=y.name) (l:=l.map PartM.name) h _ (ba hp)) (ord_pw (ordB_tail h))
def find_of_mem{p:PartM}:∀{ps:List PartM},ordB (ps.map PartM.name)=true->p∈ps->findM ps p.name=some p
 | [],_,h=>by cases h
 | y::l,ho,h=>by
  unfold findM;rw[ci]
  rcases mem_cons.1 h with rfl | h
  ·rw[ut rfl]
  ·have hlt:=ordB_lt (a:=y.name) (l:=l.map PartM.name) ho _ (ba h);rw[un λe=>by rw[e,cr] at hlt;cases hlt];exact find_of_mem (ordB_tail ho) h
def pw_all{α:Type}{R:α->α->Prop}(hs:∀{a b},R a b->R b a):∀{l:List α},l.Pairwise R->∀a∈l,∀b∈l,a=b\/R a b
 | [],_,a,h,_,_=>by cases h
 | y::l,h,a,ha,b,hb=>by
  rw[bW] at h
  rcases mem_cons.1 ha with e | ha2
  ·rcases mem_cons.1 hb with e2 | hb2
   ·exact .inl (e.trans e2.symm)
   ·exact .inr (by rw[e];exact h.1 b hb2)
  ·rcases mem_cons.1 hb with e2 | hb2
   ·exact .inr (by rw[e2];exact hs (h.1 a ha2))
   ·exact pw_all hs h.2 a ha2 b hb2
structure VF (c:List KKind) (F:List Nat->Option PartM):Prop where
 n:∀{n p},F n=some p->p.name=n
 p:∀{n p},F n=some p->PR c F p
 u:∀{m n p q},F m=some p->F n=some q->m≠n->Free p q
def valid_VF{c:List KKind}{ps:List PartM}(hc:catV c=true)(ho:ordB (ps.map PartM.name)=true)(hlen:ps.length<=20000):validF c ps=true↔VF c (findM ps):=by
 unfold validF;rw[hc,ho,un (show ¬20000<(ps.length:Int) by omega)];simp only[gc,gv];rw[parts_iff];constructor
 ·rintro⟨h1,h2⟩;refine⟨λh=>(findM_mem h).2,λh=>(h1 _ (findM_mem h).1).1,λ{m n p q} h k hne=>?_⟩;obtain⟨a1,a2⟩:=findM_mem h;obtain⟨b1,b2⟩:=findM_mem k;exact(pw_all Free.symm h2 p a1 q b1).resolve_left λe=>hne (by rw[<-a2,<-b2,e])
 ·intro h;refine⟨λp hp=>⟨h.p (find_of_mem ho hp),λ_=>rfl⟩,(ord_pw ho).imp_of_mem λ{p q} hp hq hlt=>h.u (find_of_mem ho hp) (find_of_mem ho hq) λe=>?_⟩;rw[e,cr] at hlt;cases hlt
def valid_parts{c:List KKind}{ps:List PartM}(h:validF c ps=true):catV c=true/\ordB (ps.map PartM.name)=true/\ps.length<=20000:=by
 unfold validF at h;simp only[ad,ay,wd] at h;exact⟨h.1,h.2.2.1,by omega⟩
def find_ins{x:PartM}{n:List Nat}:∀{l:List PartM},findM (insQ x l) n=if n=x.name then some x else findM l n
 | []=>by
  unfold insQ findM;rw[ci];by_cases h:n=x.name
  ·rw[t8 h,ut h.symm]
  ·rw[ul h,un λe=>h e.symm]
 | y::l=>by
  have ih:=find_ins (x:=x) (n:=n) (l:=l)
  have cons:∀(z:PartM) (r:List PartM),findM (z::r) n=if n=z.name then some z else findM r n:=λz r=>by
   unfold findM;rw[ci];by_cases h:n=z.name
   ·rw[t8 h,ut h.symm]
   ·rw[ul h,un λe=>h e.symm]
  rw[insQ];split
  ·rename_i h;rw[cons,ih,cons];by_cases e:n=y.name
   ·rw[t8 e,t8 e,ul];intro e2;rw[<-e,e2,cr] at h;cases h
   ·rw[ul e,ul e]
  ·split
   ·rename_i e;rw[cons,cons,e];split<;>rfl
   ·rw[cons]
def find_put{x:PartM}{n:List Nat}(l:List PartM):findM (putPart l x) n=if n=x.name then some x else findM l n:=by
 rw[putPart_ins,find_ins]
def VF.put{c:List KKind}{F:List Nat->Option PartM}(h:VF c F){x:PartM}(hr:rightN c x=true)(hs:x.into=[]↔x.slot=[])
 (hh:x.into≠[]->∃h,(if x.into=x.name then some x else F x.into)=some h/\x.scrapped=false/\h.scrapped=false/\takes8 c h.kind x.slot x.kind=true)
 (hf:x.into≠[]->∀n q,n≠x.name->F n=some q->¬(q.into=x.into/\q.slot=x.slot))
 (hg:∀n q,n≠x.name->F n=some q->q.into≠[]->q.into=x.name->x.scrapped=false/\takes8 c x.kind q.slot q.kind=true):VF c λn=>if n=x.name then some x else F n:=by
 have out:∀{n p},n≠x.name->(if n=x.name then some x else F n)=some p->F n=some p:=λe k=>by rw[ul e] at k;exact k
 refine⟨λ{n p} k=>?_,λ{n p} k=>?_,λ{m n p q} k1 k2 hne=>?_⟩
 ·by_cases e:n=x.name
  ·rw[t8 e] at k;cases k;exact e.symm
  ·exact h.n (out e k)
 ·by_cases e:n=x.name
  ·rw[t8 e] at k;cases k;exact⟨hr,hs,hh⟩
  ·have k2:=out e k;have hp:=h.p k2;refine⟨hp.r,hp.s,λk3=>?_⟩;obtain⟨g,g1,g2,g3,g4⟩:=hp.h k3;by_cases e2:p.into=x.name
   ·obtain⟨f1,f2⟩:=hg n p e k2 k3 e2;exact⟨x,t8 e2,g2,f1,f2⟩
   ·exact⟨g,by rw[ul e2];exact g1,g2,g3,g4⟩
 ·by_cases e:m=x.name
  ·have e2:n≠x.name:=λe2=>hne (e.trans e2.symm);rw[t8 e] at k1;cases k1;exact λk=>hf k n q e2 (out e2 k2)
  ·by_cases e2:n=x.name
   ·rw[t8 e2] at k2;cases k2;exact Free.symm λk=>hf k m p e (out e k1)
   ·exact h.u (out e k1) (out e2 k2) hne
def VF.guest{c:List KKind}{F:List Nat->Option PartM}(h:VF c F){p x:PartM}(hF:F p.name=some p)(h1:x.name=p.name)(h2:x.kind=p.kind)(h3:x.scrapped=p.scrapped):∀n q,n≠x.name->F n=some q->q.into≠[]->q.into=x.name->x.scrapped=false/\takes8 c x.kind q.slot q.kind=true:=by
 intro n q _ hq hi e;obtain⟨g,g1,g2,g3,g4⟩:=(h.p hq).h hi;rw[e,h1,hF] at g1;cases g1;rw[h3,h2];exact⟨g3,g4⟩
def VF.same{c:List KKind}{F:List Nat->Option PartM}(h:VF c F){p x:PartM}(hF:F p.name=some p)(hr:rightN c x=true)(h1:x.name=p.name)(h2:x.kind=p.kind)(h3:x.scrapped=p.scrapped)(h4:x.into=p.into)(h5:x.slot=p.slot):VF c λn=>if n=x.name then some x else F n:=by
 have hp:=h.p hF;refine h.put hr (by rw[h4,h5];exact hp.s) (λk=>?_) (λk n q hn hq=>?_) (h.guest hF h1 h2 h3)
 ·obtain⟨g,g1,g2,g3,g4⟩:=hp.h (by rw[<-h4];exact k);by_cases e:x.into=x.name
  ·rw[h4,h1] at e;rw[e,hF] at g1;cases g1;exact⟨x,by rw[h4,h1,t8 e],by rw[h3];exact g2,by rw[h3];exact g2,by rw[h2,h5];exact g4⟩
  ·exact⟨g,by rw[ul e,h4];exact g1,by rw[h3];exact g2,g3,by rw[h2,h5];exact g4⟩
 ·have:=h.u hF hq λe=>hn (by rw[h1];exact e.symm);rw[h4] at k ⊢;rw[h5];exact this k
def insPr(x:PropM):List PropM->List PropM
 | []=>[x]
 | y::l=>if db y.key x.key=true then y::insPr x l else if y.key=x.key then x::l else x::y::l
def putProp_ins(x:PropM):∀l:List PropM,putProp l x=insPr x l
 | []=>by simp[putProp,posProp,foundProp,insPr]
 | y::l=>by
  have ih:=putProp_ins x l;unfold putProp posProp at ih ⊢;rw[insPr,List.takeWhile_cons];split
  ·rename_i h
   have e:foundProp (y::l) x.key (ge (y::gm (λp=>db p.key x.key) l))=foundProp l x.key (gm (λp=>db p.key x.key) l).length:=by
    unfold foundProp;rw[bb,List.getElem?_cons_succ]
   rw[e,bb,List.set_cons_succ,List.take_succ_cons,List.drop_succ_cons,b9];split at ih<;>rename_i hf
   ·rw[t8 hf,ih]
   ·rw[ul hf,ih]
  ·rename_i h;rw[List.length_nil];unfold foundProp;simp only[List.getElem?_cons_zero,List.set_cons_zero,List.take_zero,gd,dt,wp]
def insPr_ord{x:PropM}:∀{l:List PropM},ordB (l.map PropM.key)=true->ordB ((insPr x l).map PropM.key)=true/\∀p∈insPr x l,p=x\/p∈l
 | [],_=>⟨rfl,λp hp=>by rw[insPr,mem_singleton] at hp;exact .inl hp⟩
 | y::l,ho=>by
  obtain⟨i1,i2⟩:=insPr_ord (x:=x) (l:=l) (ordB_tail ho);have hlt:=ordB_lt (a:=y.key) (l:=l.map PropM.key) ho
  have cons:∀{a:PropM} {r:List PropM},(∀p∈r,db a.key p.key=true)->ordB (r.map PropM.key)=true->ordB ((a::r).map PropM.key)=true:=by
   intro a r h1 h2
   cases r with
   | nil=>rfl
   | cons b r=>
    rw[aO,aO,ordB,ad];exact⟨h1 b ac,by rw[aO] at h2;exact h2⟩
  rw[insPr];split
  ·rename_i h;refine⟨cons (λp hp=>?_) i1,λp hp=>?_⟩
   ·rcases i2 p hp with rfl | hp
    ·exact h
    ·exact hlt _ (ba hp)
   ·rcases mem_cons.1 hp with rfl | hp
    ·exact .inr ac
    ·exact(i2 p hp).imp id (af _)
  ·rename_i h;split
   ·rename_i e;refine⟨cons (λp hp=>by rw[<-e];exact hlt _ (ba hp)) (ordB_tail ho),λp hp=>?_⟩
    rcases mem_cons.1 hp with rfl | hp
    ·exact .inl rfl
    ·exact .inr (af _ hp)
   ·rename_i e
    have hxy:db x.key y.key=true:=by
     rcases fF x.key y.key with k | k | k
     ·exact k
     ·exact t7 k.symm e
     ·exact t7 k h
    refine⟨cons (λp hp=>?_) ho,λp hp=>?_⟩
    ·rcases mem_cons.1 hp with rfl | hp
     ·exact hxy
     ·exact dz hxy (hlt _ (ba hp))
    ·rcases mem_cons.1 hp with rfl | hp
     ·exact .inl rfl
     ·exact .inr hp
def ev_parts{e:EvM}(h:validEv e=true):0<=e.day/\e.day<=40000/\nameN e.part=true/\e.mid=true/\∀s∈e.names,nameN s=true:=by
 unfold validEv at h;simp only[ad,ay,wd] at h;obtain⟨_,h1,h2,h3,h4,_,h6⟩:=h;exact⟨by omega,by omega,h3,h4,λs hs=>by simpa using List.any_eq_false.1 h6 s hs⟩
def name_ne{s:List Nat}(h:nameN s=true):s≠[]:=λe=>by rw[e] at h;cases h
def right_fresh{c:List KKind}{p:PartM}{e:EvM}(h:rightN c p=true)(he:validEv e=true):rightN c (freshP p e)=true:=by
 obtain⟨h1,h2,_⟩:=ev_parts he;unfold rightN at h ⊢;simp only[ad,ay,wd] at h ⊢;obtain⟨a1,a2,a3,a4,a5,a6,a7,a8,_⟩:=h;refine⟨a1,a2,a3,?_,?_,a6,a7,a8,rfl,rfl,rfl⟩
 ·show ¬maxI p.since e.day<p.made;unfold maxI;split<;>omega
 ·show ¬40000<maxI p.since e.day;unfold maxI;split<;>omega
def right_note{c:List KKind}{p:PartM}{e:EvM}(h:rightN c p=true)(he:validEv e=true)(h6:e.op=6)(hl:¬60<((putProp p.props ⟨e.key,e.value⟩).length:Int)):rightN c (noteP p e)=true:=by
 obtain⟨_,_,_,hm,hn⟩:=ev_parts he;have hk:nameN e.key=true:=hn _ (by unfold EvM.names;rw[h6];exact mem_singleton.2 rfl)
 have hv:propN ⟨e.key,e.value⟩=true:=by
  unfold EvM.mid at hm;rw[h6] at hm;simp only[show ¬(6:Int)=1 by decide,show ¬(6:Int)=2 by decide,if_false,if_true,ad,ay,wd] at hm;unfold propN;simp only[hk,gv,ad,ay,wd,wp];exact⟨hm.1,by omega⟩
 unfold rightN at h ⊢;simp only[ad,ay,wd] at h ⊢;obtain⟨a1,a2,a3,a4,a5,a6,a7,a8,a9⟩:=h;refine⟨a1,a2,a3,a4,a5,hl,?_,?_,a9⟩
 ·show(putProp p.props ⟨e.key,e.value⟩).all propN=true;rw[all_eq_true] at a7 ⊢;intro x hx
  rcases putProp_mem hx with rfl | hx
  ·exact hv
  ·exact a7 x hx
 ·show ordB ((putProp p.props ⟨e.key,e.value⟩).map PropM.key)=true;rw[putProp_ins];exact(insPr_ord a8).1
def right_new{c:List KKind}{e:EvM}(he:validEv e=true)(hk:¬(findK8 c e.kind).isNone=true):rightN c (newPart e)=true:=by
 obtain⟨h1,h2,h3,_⟩:=ev_parts he;unfold rightN newPart;simp only[ad,ay,wd];refine⟨?_,h3,by omega,by omega,by omega,by simp,rfl,rfl,rfl,rfl,rfl⟩
 cases h:findK8 c e.kind with
 | none=>rw[h] at hk;exact t7 rfl hk
 | some k=>rfl
def step_VF{c:List KKind}{ps:List PartM}{e:EvM}{p h:PartM}(hV:VF c (findM ps))(he:validEv e=true)(hF:findM ps p.name=some p)(hH:e.op=2->findM ps e.into=some h/\p.name=e.part)(hps:p.scrapped=false)(hhs:h.scrapped=false)(h0:(stepN c ps e p h).2=0):∃x,(stepN c ps e p h).1=putPart ps x/\VF c (λn=>if n=x.name then some x else findM ps n):=by
 have hp:=hV.p hF;unfold stepN at h0 ⊢;simp only at h0 ⊢;by_cases h2:e.op=2
 ·rw[t8 h2] at h0 ⊢;obtain⟨g1,g2⟩:=hH h2;obtain⟨_,_,_,hm,hn⟩:=ev_parts he;have hi:e.into≠[]:=name_ne (hn _ (by unfold EvM.names;rw[h2];exact ac));have hs:e.slot≠[]:=name_ne (hn _ (by unfold EvM.names;rw[h2];exact af _ ac))
  have hne:e.into≠e.part:=by
   unfold EvM.mid at hm;rw[h2] at hm;simpa using hm
  split at h0
  ·cases h0
  rename_i k1;rw[ul k1];split at h0
  ·cases h0
  rename_i k2;rw[ul k2];split at h0
  ·cases h0
  rename_i k3;rw[ul k3];simp only[dc,not_or,em,d7] at k1;refine⟨_,rfl,hV.put (x:=fitP p e) hp.r ⟨λk=>t7 k hi,λk=>t7 k hs⟩ (λ_=>⟨h,?_,hps,hhs,k1.2⟩) (λ_ n q _ hq k=>?_) (hV.guest hF rfl rfl rfl)⟩
  ·show(if e.into=p.name then some (fitP p e) else findM ps e.into)=some h;rw[ul (by rw[g2];exact hne)];exact g1
  ·refine k3 (any_eq_true.2 ⟨q,(findM_mem hq).1,?_⟩);rw[ad,wp,wp];exact k
 rw[ul h2] at h0 ⊢;by_cases h3:e.op=3
 ·rw[t8 h3] at h0 ⊢;split at h0
  ·cases h0
  rename_i k1;rw[ul k1];exact⟨_,rfl,hV.put (x:=outP p) hp.r ⟨λ_=>rfl,λ_=>rfl⟩ (λk=>t7 rfl k) (λk=>t7 rfl k) (hV.guest hF rfl rfl rfl)⟩
 rw[ul h3] at h0 ⊢;by_cases h4:e.op=4
 ·rw[t8 h4] at h0 ⊢;split at h0
  ·rename_i k1;rw[t8 k1];exact⟨_,rfl,hV.same hF hp.r rfl rfl rfl rfl rfl⟩
  ·cases h0
 rw[ul h4] at h0 ⊢;by_cases h5:e.op=5
 ·rw[t8 h5] at h0 ⊢;exact⟨_,rfl,hV.same (x:=freshP p e) hF (right_fresh hp.r he) rfl rfl rfl rfl rfl⟩
 rw[ul h5] at h0 ⊢;by_cases h6:e.op=6
 ·rw[t8 h6] at h0 ⊢;split at h0
  ·cases h0
  rename_i k1;rw[ul k1];exact⟨_,rfl,hV.same (x:=noteP p e) hF (right_note hp.r he h6 k1) rfl rfl rfl rfl rfl⟩
 rw[ul h6] at h0 ⊢;by_cases h7:e.op=7
 ·rw[t8 h7] at h0 ⊢;split at h0
  ·cases h0
  rename_i k1;rw[ul k1];split at h0
  ·cases h0
  rename_i k2;rw[ul k2];have k1:p.into=[]:=Decidable.not_not.1 k1;refine⟨_,rfl,hV.put (x:=goneP p) hp.r hp.s (λk=>t7 k1 k) (λk=>t7 k1 k) λn q _ hq hi k=>?_⟩;exact t7 (any_eq_true.2 ⟨q,(findM_mem hq).1,ut k⟩) k2
 rw[ul h7] at h0 ⊢;exact⟨_,rfl,hV.same hF hp.r rfl rfl rfl rfl rfl⟩
def fleet_valid{c:List KKind}{ps:List PartM}{e:EvM}(hlen:ps.length<20000)(h0:(fleetN c ps e).2=0):(validF c (fleetN c ps e).1=true/\(fleetN c ps e).1.length<=ps.length+1)/\validEv e=true:=by
 unfold fleetN at h0 ⊢;split at h0;rotate_left
 ·cases h0
 rename_i hv;rw[t8 hv];split at h0;rotate_left
 ·cases h0
 rename_i he;rw[t8 he];refine⟨?_,he⟩;obtain⟨hc,ho,_⟩:=valid_parts hv;have hV:=(valid_VF hc ho (by omega)).1 hv
 have fin:∀x,VF c (λn=>if n=x.name then some x else findM ps n)->validF c (putPart ps x)=true/\(putPart ps x).length<=ps.length+1:=λx hx=>by
  have hl:=ins_len x ps;rw[<-putPart_ins] at hl;refine⟨(valid_VF hc (by rw[putPart_ins];exact(ins_ord ho).1) (by omega)).2 ?_,hl⟩;rw[show findM (putPart ps x)=λn=>if n=x.name then some x else findM ps n from funext λn=>find_put ps];exact hx
 by_cases h1:e.op=1
 ·rw[t8 h1] at h0 ⊢;rw[getP_find] at h0 ⊢;unfold makeN at h0 ⊢;split at h0
  ·cases h0
  rename_i k1;rw[ul k1];split at h0
  ·cases h0
  rename_i k2;rw[ul k2];split at h0
  ·cases h0
  rename_i k3;rw[ul k3];refine fin _ (hV.put (right_new he k2) ⟨λ_=>rfl,λ_=>rfl⟩ (λk=>t7 rfl k) (λk=>t7 rfl k) λn q _ hq hi k=>?_);obtain⟨g,g1,_⟩:=(hV.p hq).h hi;rw[k] at g1;have g1:findM ps e.part=some g:=g1;rw[g1] at k1;exact t7 rfl k1
 ·rw[ul h1] at h0 ⊢;rw[getP_find,getP_find] at h0 ⊢
  cases hp:findM ps e.part with
  | none=>rw[hp] at h0;cases h0
  | some p=>
   rw[hp] at h0;have hpn:=(findM_mem hp).2
   cases hh:(if e.op=2 then findM ps e.into else some p) with
   | none=>rw[hh] at h0;cases h0
   | some h=>
    rw[hh] at h0;simp only at h0 ⊢;split at h0
    ·cases h0
    rename_i k;rw[ul k];simp only[dc,not_or,em] at k;obtain⟨x,x1,x2⟩:=step_VF hV he (by rw[hpn];exact hp) (λh2=>by rw[t8 h2] at hh;exact⟨hh,hpn⟩) k.1 k.2 h0;rw[x1];exact fin x x2
def minI_le(a b:Int):minI a b<=a/\minI a b<=b:=by unfold minI;split<;>omega
def le_maxI(a b:Int):a<=maxI a b/\b<=maxI a b:=by unfold maxI;split<;>omega
def minI_ge{l a b:Int}(h1:l<=a)(h2:l<=b):l<=minI a b:=by unfold minI;split<;>assumption
def maxI_le{l a b:Int}(h1:a<=l)(h2:b<=l):maxI a b<=l:=by unfold maxI;split<;>assumption
def addW_eq{a b:Int}(h1:0<=a)(h2:a<=1000000000000)(h3:0<=b)(h4:b<=1000000000000):addW a b=a+b:=by
 unfold addW bR
 rw[show(iJ (xe .i64) (a+b)&&iJ (a+b) (xd .i64))=true by
  simp only[ad,dj,wp,xe,xd]
  omega]
 rfl
def plus_rng{a b:Int}(h1:0<=a)(h2:a<=1000000000000)(h3:0<=b)(h4:b<=1000000000000):0<=plusN a b/\plusN a b<=1000000000000:=by
 unfold plusN satN;rw[addW_eq h1 h2 h3 h4];exact⟨cb (minI_ge (by omega) (by omega)) (le_maxI _ _).2,maxI_le (by omega) (minI_le _ _).2⟩
def amt_plus{a b c d:Int}(h:amtN a b=true)(hc:0<=c)(hd:0<=d):amtN (bothN plusN a b c d).1 (bothN plusN a b c d).2=true:=by
 unfold amtN at h;simp only[ad,wp] at h;unfold bothN;split
 ·rename_i k;unfold ivOkN at k;simp only[ad,wp] at k;have p1:=plus_rng h.1 (by omega) hc (by omega);have p2:=plus_rng h.1 (by omega) hd (by omega);have p3:=plus_rng (a:=b) (by omega) h.2.2 hc (by omega);have p4:=plus_rng (a:=b) (by omega) h.2.2 hd (by omega);unfold amtN;simp only[ad,wp];exact⟨minI_ge (minI_ge (minI_ge p1.1 p2.1) p3.1) p4.1,cb (minI_le _ _).2 (le_maxI _ _).2,maxI_le (maxI_le (maxI_le p1.2 p2.2) p3.2) p4.2⟩
 ·rfl
def damage_nn(f:FormM)(u:UseM):0<=(damageN f u).1/\0<=(damageN f u).2:=by
 unfold damageN;split
 ·exact⟨(le_maxI _ _).1,(le_maxI _ _).1⟩
 ·exact⟨ce _,ce _⟩
def use_nn{e:EvM}(he:validEv e=true)(h4:e.op=4):(0<=e.u1/\0<=e.u2)/\(0<=e.u3/\0<=e.u4)/\0<=e.u5/\0<=e.u6:=by
 obtain⟨_,_,_,hm,_⟩:=ev_parts he;unfold EvM.mid at hm;rw[h4] at hm;simp only[show ¬(4:Int)=1 by decide,show ¬(4:Int)=2 by decide,show ¬(4:Int)=6 by decide,if_false,if_true,EvM.use,iokN,ad,ay,wd] at hm;omega
structure Keeps (f:PartM->PartM):Prop where
 n:∀p,(f p).name=p.name
 k:∀p,(f p).kind=p.kind
 i:∀p,(f p).into=p.into
 s:∀p,(f p).slot=p.slot
 x:∀p,(f p).scrapped=p.scrapped
def find_map{f:PartM->PartM}(hf:∀p,(f p).name=p.name)(n:List Nat):∀ps:List PartM,findM (ps.map f) n=(findM ps n).map f
 | []=>rfl
 | p::ps=>by
  have ih:=find_map hf n ps;unfold findM at ih ⊢;rw[aO,ci,ci,hf,ih];split<;>rfl
def map_names{f:PartM->PartM}(hf:∀p,(f p).name=p.name)(ps:List PartM):(ps.map f).map PartM.name=ps.map PartM.name:=by
 rw[map_map];exact bd λp _=>hf p
def valid_map{c:List KKind}{ps:List PartM}{f:PartM->PartM}(hf:Keeps f)(hr:∀p,rightN c p=true->rightN c (f p)=true)(h:validF c ps=true):validF c (ps.map f)=true:=by
 obtain⟨hc,ho,hl⟩:=valid_parts h;have hV:=(valid_VF hc ho hl).1 h;refine(valid_VF hc (by rw[map_names hf.n];exact ho) (by rw[bw];exact hl)).2 ?_
 have inv:∀{n p},findM (ps.map f) n=some p->∃q,findM ps n=some q/\f q=p:=λ{n p} k=>by
  rw[find_map hf.n] at k
  cases hq:findM ps n with
  | none=>rw[hq] at k;cases k
  | some q=>rw[hq] at k;cases k;exact⟨q,rfl,rfl⟩
 refine⟨λk=>?_,λk=>?_,λk1 k2 hne=>?_⟩
 ·obtain⟨q,h1,rfl⟩:=inv k;rw[hf.n];exact hV.n h1
 ·obtain⟨q,h1,rfl⟩:=inv k;have hp:=hV.p h1;refine⟨hr q hp.r,by rw[hf.i,hf.s];exact hp.s,λk=>?_⟩;rw[hf.i] at k ⊢;obtain⟨g,g1,g2,g3,g4⟩:=hp.h k;exact⟨f g,by rw[find_map hf.n,g1];rfl,by rw[hf.x];exact g2,by rw[hf.x];exact g3,by rw[hf.k,hf.k,hf.s];exact g4⟩
 ·obtain⟨q,h1,rfl⟩:=inv k1;obtain⟨r,h2,rfl⟩:=inv k2;unfold Free;rw[hf.i,hf.i,hf.s,hf.s];exact hV.u h1 h2 hne
def right_life{c:List KKind}{p:PartM}(u:UseM)(d:Int×Int)(h:rightN c p=true)(h1:0<=u.u1/\0<=u.u2)(h2:0<=u.u3/\0<=u.u4)(h3:0<=d.1/\0<=d.2):rightN c (addLife u d p)=true:=by
 unfold rightN at h ⊢;simp only[ad] at h ⊢;obtain⟨a1,a2,a3,a4,a5,a6,a7,a8,b1,b2,b3⟩:=h;exact⟨a1,a2,a3,a4,a5,a6,a7,a8,amt_plus b1 h1.1 h1.2,amt_plus b2 h2.1 h2.2,amt_plus b3 h3.1 h3.2⟩
def useP_keeps(dmg:FormM)(ins:List (List Nat))(e:EvM):Keeps (useP dmg ins e):=by
 constructor<;>intro p<;>unfold useP<;>split<;>rfl
def use_valid{c:List KKind}{dmg:FormM}{ps:List PartM}{e:EvM}(he:validEv e=true)(h4:e.op=4)(h:validF c ps=true):validF c (useN dmg ps e)=true:=by
 obtain⟨h1,h2,_⟩:=use_nn he h4;refine valid_map (useP_keeps _ _ _) (λp hp=>?_) h;unfold useP;split
 ·exact right_life _ _ hp h1 h2 (damage_nn _ _)
 ·exact hp
def bare(p:PartM):PartM:={ p with l1:=0,l2:=0,l3:=0,l4:=0,l5:=0,l6:=0 }
def bare_keeps:Keeps bare:=⟨λ_=>rfl,λ_=>rfl,λ_=>rfl,λ_=>rfl,λ_=>rfl⟩
def bare_right{c:List KKind}{p:PartM}(h:rightN c p=true):rightN c (bare p)=true:=by
 unfold rightN at h ⊢;simp only[ad] at h ⊢;obtain⟨a1,a2,a3,a4,a5,a6,a7,a8,_⟩:=h;exact⟨a1,a2,a3,a4,a5,a6,a7,a8,rfl,rfl,rfl⟩
def put_map{f:PartM->PartM}(hf:∀p,(f p).name=p.name)(x:PartM)(l:List PartM):putPart (l.map f) (f x)=(putPart l x).map f:=by
 rw[putPart_ins,putPart_ins]
 induction l with
 | nil=>rfl
 | cons y l ih=>
  rw[aO,insQ,insQ,hf,hf,ih];split
  ·rfl
  ·split<;>rfl
def step_bare{c:List KKind}{ps:List PartM}{e:EvM}{p h:PartM}:stepN c (ps.map bare) e (bare p) (bare h)=((stepN c ps e p h).1.map bare,(stepN c ps e p h).2):=by
 have ha:∀g:PartM->Bool,(∀q,g (bare q)=g q)->(ps.map bare).any g=ps.any g:=λg hg=>by
  rw[List.any_map];exact congrArg (ps.any ·) (funext hg)
 have put:=λx=>put_map bare_keeps.n x ps;have a1:=ha (λq=>decide (q.into=e.into)&&decide (q.slot=e.slot)) λ_=>rfl;have a2:=ha (λq=>decide (q.into=p.name)) λ_=>rfl;unfold stepN;simp only;rw[a1,show(bare p).name=p.name from rfl,a2]
 repeat' split
 all_goals first
  | rfl
  | contradiction
  | exact ext (put (fitP p e)) rfl
  | exact ext (put (outP p)) rfl
  | exact ext (put (freshP p e)) rfl
  | exact ext (put (noteP p e)) rfl
  | exact ext (put (goneP p)) rfl
  | exact ext (put p) rfl
def fleet_bare{c:List KKind}{ps:List PartM}{e:EvM}(hv:validF c ps=true):fleetN c (ps.map bare) e=((fleetN c ps e).1.map bare,(fleetN c ps e).2):=by
 have hv2:validF c (ps.map bare)=true:=valid_map bare_keeps (λp=>bare_right) hv;unfold fleetN;rw[t8 hv,t8 hv2];split;rotate_left
 ·rfl
 split
 ·rw[getP_find,getP_find,find_map bare_keeps.n,Option.isSome_map];unfold makeN;rw[bw]
  repeat' split
  all_goals first
   | rfl
   | exact ext (put_map bare_keeps.n (newPart e) ps) rfl
 ·rw[getP_find,getP_find,getP_find,getP_find,find_map bare_keeps.n,find_map bare_keeps.n];rw[show(if e.op=2 then Option.map bare (findM ps e.into) else Option.map bare (findM ps e.part))=Option.map bare (if e.op=2 then findM ps e.into else findM ps e.part) by split<;>rfl]
  cases findM ps e.part with
  | none=>rfl
  | some p=>
   cases (if e.op=2 then findM ps e.into else some p) with
   | none=>rfl
   | some h=>
    simp only[ex];rw[show(bare p).scrapped=p.scrapped from rfl,show(bare h).scrapped=h.scrapped from rfl];split
    ·rfl
    ·exact step_bare
def use_bare(dmg:FormM)(ps:List PartM)(e:EvM):(useN dmg ps e).map bare=ps.map bare:=by
 unfold useN;rw[map_map];refine bd λp _=>?_;show bare (useP _ _ _ p)=bare p;unfold useP;split<;>rfl
def goR(u:Bool)(c:List KKind)(dmg:FormM):List EvM->List PartM->List PartM×Int
 | [],s=>(s,0)
 | e::r,s=>if (fleetN c s e).2=0 then goR u c dmg r (if u=true/\e.op=4 then useN dmg (fleetN c s e).1 e else (fleetN c s e).1) else ([],(fleetN c s e).2)
def run_go{c:List KKind}{dmg:FormM}:∀(l:List EvM) (i:Nat) (s:List PartM),(runGo c dmg i l s).1=(goR true c dmg l s).1
 | [],_,_=>rfl
 | e::r,i,s=>by
  rw[runGo,goR];split
  ·split
   ·rename_i h;rw[t8 ⟨rfl,h⟩];exact run_go r _ _
   ·rename_i h;rw[ul λk=>h k.2];exact run_go r _ _
  ·rfl
def next_ok{u:Bool}{c:List KKind}{dmg:FormM}{s:List PartM}{e:EvM}(hl:s.length<20000)(h0:(fleetN c s e).2=0):validF c (if u=true/\e.op=4 then useN dmg (fleetN c s e).1 e else (fleetN c s e).1)=true/\(if u=true/\e.op=4 then useN dmg (fleetN c s e).1 e else (fleetN c s e).1).length<=s.length+1:=by
 obtain⟨⟨h1,h2⟩,he⟩:=fleet_valid hl h0;split
 ·rename_i k;exact⟨use_valid he k.2 h1,by unfold useN;rw[bw];exact h2⟩
 ·exact⟨h1,h2⟩
def go_bare{c:List KKind}{dmg:FormM}:∀(l:List EvM) (s:List PartM),validF c s=true->s.length+l.length<=20000->(goR false c dmg l (s.map bare)).2=(goR true c dmg l s).2
 | [],_,_,_=>rfl
 | e::r,s,hv,hl=>by
  rw[bb] at hl;rw[goR,goR,fleet_bare hv];by_cases h0:(fleetN c s e).2=0
  ·obtain⟨n1,n2⟩:=next_ok (u:=true) (dmg:=dmg) (by omega) h0;rw[t8 h0,t8 h0,ul λk:false=true/\_=>bh k.1,<-go_bare r _ n1 (by omega)];split
   ·rw[use_bare]
   ·rfl
  ·rw[ul h0,ul h0]
def go_app{u:Bool}{c:List KKind}{dmg:FormM}:∀(a b:List EvM) (s:List PartM),(goR u c dmg (a++b) s).2=0->(goR u c dmg a s).2=0
 | [],_,_,_=>rfl
 | e::a,b,s,h=>by
  rw[b9,goR] at h;rw[goR];split at h
  ·rename_i h0;rw[t8 h0];exact go_app a b _ h
  ·rename_i h0;exact t7 h h0
def kidsN(ps:List PartM)(part:List Nat):RestM:=(ps.filter λp=>!(decide (p.into=[]))&&!(decide (p.name=part))).map λp=>(p.name,p.into)
def atL:Nat->List PartM->List (List Nat×Int)
 | _,[]=>[]
 | i,p::ps=>(p.name,(i:Int))::atL (i+1) ps
def atM_atL:∀{ps:List PartM} {i:Nat} {m:List (List Nat×Int)},ordB (ps.map PartM.name)=true->(∀p∈ps,bl p.name m=false)->atM i m ps=m++atL i ps
 | [],_,m,_,_=>(ct m).symm
 | p::ps,i,m,ho,hm=>by
  have hp:=hm p ac;have hlt:=ordB_lt (a:=p.name) (l:=ps.map PartM.name) ho;rw[atM,hp,ul bh,iF hp,atM_atL (ordB_tail ho) λq hq=>?_,cv]
  ·rfl
  ·have h1:=hm q (af _ hq);have h2:=hlt _ (ba hq);unfold bl at h1 ⊢;rw[List.any_append,h1,List.any_cons,List.any_nil,Bool.or_false,gt,wd];intro e;rw[e,cr] at h2;cases h2
def restL_atL{full:List PartM}:∀{ps:List PartM} {i:Nat},full.drop i=ps->restL full (atL i ps)=(ps.filter λp=>!(decide (p.into=[]))).map λp=>(p.name,p.into)
 | [],_,_=>rfl
 | p::ps,i,h=>by
  have hp:full[i]?=some p:=by
   have:=congrArg (λl=>l[0]?) h;simpa using this
  have h2:full.drop (i+1)=ps:=by
   have:=congrArg (List.drop 1) h;simpa using this
  have ih:=restL_atL h2
  have hi:intoOf full (i:Int)=p.into:=by unfold intoOf;rw[fd,hp]
  unfold restL at ih ⊢;rw[atL,bt,ap,ih,hi];by_cases e:p.into=[]
  ·rw[t8 e,ut e];rfl
  ·rw[ul e,un e];rfl
def del_map{part:List Nat}:∀{ps:List PartM},ordB (ps.map PartM.name)=true->eO part ((ps.filter λp=>!(decide (p.into=[]))).map λp=>(p.name,p.into))=kidsN ps part
 | [],_=>rfl
 | p::ps,ho=>by
  have ih:=del_map (part:=part) (ordB_tail ho);have hlt:=ordB_lt (a:=p.name) (l:=ps.map PartM.name) ho;unfold kidsN at ih ⊢;rw[ap,ap];by_cases e:p.into=[]
  ·rw[ut e];exact ih
  ·rw[un e];by_cases h:part=p.name
   ·rw[ut h.symm];show eO part ((p.name,p.into)::_)=_;rw[eO,t8 h];refine congrArg (List.map _) (b7 λq hq=>?_);have h2:=hlt _ (ba hq);rw[un (p:=q.name=part) λk=>by rw[k,h,cr] at h2;cases h2];simp
   ·rw[un λk=>h k.symm];show eO part ((p.name,p.into)::_)=(p.name,p.into)::_;rw[eO,ul h,ih]
def rest_kids{ps:List PartM}(ho:ordB (ps.map PartM.name)=true)(part:List Nat):restN ps part=kidsN ps part:=by
 unfold restN;rw[atM_atL ho λ_ _=>rfl,dt,restL_atL (gd (l:=ps)),del_map ho]
def inside_fuel:∀(n:Nat) (r:RestM) (ls:List (List Nat)),r.length+2<=n->insideGo (n+1) r ls=insideGo n r ls
 | 0,_,_,h=>by omega
 | n+1,r,ls,h=>by
  show(if ls=[] then [] else ((r.filter λe=>ls.contains e.2).map (·.1))++insideGo (n+1) (r.filter λe=>!ls.contains e.2) ((r.filter λe=>ls.contains e.2).map (·.1)))=if ls=[] then [] else ((r.filter λe=>ls.contains e.2).map (·.1))++insideGo n (r.filter λe=>!ls.contains e.2) ((r.filter λe=>ls.contains e.2).map (·.1))
  split
  ·rfl
  congr 1
  generalize hP:(r.filter λe=>ls.contains e.2)=P
  cases P with
  | nil=>
   rw[List.map_nil]
   cases n with
   | zero=>omega
   | succ n=>simp[insideGo]
  | cons x P=>
   refine inside_fuel n _ _ ?_
   have hx:x∈r.filter λe=>ls.contains e.2:=by rw[hP];exact List.mem_cons_self
   rw[List.mem_filter] at hx
   have:(r.filter λe=>!ls.contains e.2).length<r.length:=by
    refine Nat.lt_of_le_of_ne (List.length_filter_le _ _) λk=>?_;have:=List.length_filter_eq_length_iff.1 k x hx.1;rw[hx.2] at this;cases this
   omega
def inside_more{r:RestM}{ls:List (List Nat)}{n:Nat}(h:r.length+2<=n):insideGo n r ls=insideGo (r.length+2) r ls:=by
 obtain⟨d,rfl⟩:∃d,n=r.length+2+d:=⟨n-(r.length+2),by omega⟩;clear h
 induction d with
 | zero=>rfl
 | succ d ih=>rw[show r.length+2+(d+1)=(r.length+2+d)+1 by omega,inside_fuel _ _ _ (by omega),ih]
section
variable {A:List Nat->Bool}
def inside_in:∀(n:Nat) {r:RestM} {ls:List (List Nat)},(∀e∈r,A e.1=A e.2)->(∀x∈ls,A x=true)->insideGo n r ls=insideGo n (r.filter λe=>A e.1) ls/\∀x∈insideGo n r ls,A x=true
 | 0,_,_,_,_=>⟨rfl,λx hx=>by cases hx⟩
 | n+1,r,ls,hr,hls=>by
  have hk:∀e∈r,ls.contains e.2=true->A e.1=true:=λe he h=>by rw[hr e he];exact hls _ (contains_iff_mem.1 h)
  have e1:((r.filter λe=>A e.1).filter λe=>ls.contains e.2)=r.filter λe=>ls.contains e.2:=by
   rw[bi];refine b7 λe he=>?_;cases h:ls.contains e.2
   ·rfl
   ·rw[hk e he h];rfl
  have e2:((r.filter λe=>A e.1).filter λe=>!ls.contains e.2)=(r.filter λe=>!ls.contains e.2).filter λe=>A e.1:=by
   rw[bi,bi];exact b7 λe _=>fm _ _
  have hP:∀x∈(r.filter λe=>ls.contains e.2).map (·.1),A x=true:=λx hx=>by
   obtain⟨e,he,rfl⟩:=mem_map.1 hx;rw[mem_filter] at he;exact hk e he.1 he.2
  obtain⟨i1,i2⟩:=inside_in n (r:=r.filter λe=>!ls.contains e.2) (ls:=(r.filter λe=>ls.contains e.2).map (·.1)) (λe he=>hr e (mem_filter.1 he).1) hP;rw[insideGo,insideGo,e1,e2];split
  ·exact⟨rfl,λx hx=>by cases hx⟩
  ·refine⟨congrArg _ i1,λx hx=>?_⟩
   rcases mem_append.1 hx with hx | hx
   ·exact hP x hx
   ·exact i2 x hx
def inside_side{ps:List PartM}(hap:Apart A ps)(ho:ordB (ps.map PartM.name)=true){part:List Nat}(hA:A part=true):insideN (only A ps) part=insideN ps part/\∀x∈insideN ps part,A x=true:=by
 have hr:∀e∈kidsN ps part,A e.1=A e.2:=λe he=>by
  obtain⟨p,hp,rfl⟩:=mem_map.1 he;rw[mem_filter] at hp
  exact hap p hp.1 λk=>by have:=hp.2;rw[ut k] at this;cases this
 have hk:kidsN (only A ps) part=(kidsN ps part).filter λe=>A e.1:=by
  unfold kidsN only;rw[bi,f6,bi];exact congrArg (List.map _) (b7 λp _=>fm _ _)
 have hls:∀x∈[part],A x=true:=λx hx=>by rw[mem_singleton.1 hx];exact hA
 have hlen:∀qs:List PartM,(kidsN qs part).length<=qs.length:=λqs=>by unfold kidsN;rw[bw];exact cc _ _
 have hh:∀qs:List PartM,bl part (atM 0 [] qs)=(findM qs part).isSome:=λqs=>by rw[(atM_get part qs 0 []).1];rfl
 obtain⟨i1,i2⟩:=inside_in ((kidsN ps part).length+2) hr hls;have l1:=hlen ps;have l2:=hlen (only A ps)
 have l3:(kidsN (only A ps) part).length<=(kidsN ps part).length:=by rw[hk];exact cc _ _
 unfold insideN;rw[hh,hh,find_only hA,rest_kids ho,rest_kids (only_ord ho),inside_more (n:=ps.length+2) (by omega),inside_more (n:=(only A ps).length+2) (by omega),<-inside_more (r:=kidsN (only A ps) part) (n:=(kidsN ps part).length+2) (by omega),hk,<-i1];refine⟨rfl,λx hx=>?_⟩;split at hx
 ·exact i2 x ((sortP _).mem_iff.1 hx)
 ·cases hx
def only_map{f:PartM->PartM}(hf:∀p,(f p).name=p.name)(ps:List PartM):only A (ps.map f)=(only A ps).map f:=by
 unfold only;rw[f6];exact congrArg (List.map f) (b7 λp _=>by show A (f p).name=_;rw[hf])
def use_side{dmg:FormM}{ps:List PartM}{e:EvM}(hap:Apart A ps)(ho:ordB (ps.map PartM.name)=true)(hA:A e.part=true):only A (useN dmg ps e)=useN dmg (only A ps) e/\only (nt A) (useN dmg ps e)=only (nt A) ps/\Apart A (useN dmg ps e)/\ordB ((useN dmg ps e).map PartM.name)=true:=by
 obtain⟨i1,i2⟩:=inside_side hap ho hA;have hK:=useP_keeps dmg (insideN ps e.part++[e.part]) e;unfold useN;rw[only_map hK.n,only_map hK.n,i1,map_names hK.n];refine⟨rfl,?_,λp hp hi=>?_,ho⟩
 ·refine(bd λp hp=>?_).trans (List.map_id _);have hn:=(mem_filter.1 hp).2;unfold useP;rw[ul]
  ·rfl
  ·intro k
   have hn2:A p.name=false:=by unfold nt at hn;simpa using hn
   rcases mem_append.1 (contains_iff_mem.1 k) with k | k
   ·rw[i2 _ k] at hn2;cases hn2
   ·rw[mem_singleton.1 k,hA] at hn2;cases hn2
 ·obtain⟨q,hq,rfl⟩:=mem_map.1 hp;rw[hK.i] at hi;rw[hK.n,hK.i];exact hap q hq hi
def nt_nt:nt (nt A)=A:=funext λn=>by unfold nt;exact Bool.not_not _
def OnSide(A:List Nat->Bool)(e:EvM):Prop:=e.op=2->A e.into=A e.part
def OnSide.nt{e:EvM}(h:OnSide A e):OnSide (nt A) e:=λk=>by unfold Proofs.nt;rw[h k]
def next_side{u:Bool}{c:List KKind}{dmg:FormM}{ps:List PartM}{e:EvM}(hap:Apart A ps)(ho:ordB (ps.map PartM.name)=true)(hlen:ps.length<20000)(hv:validF c ps=true)(hA:A e.part=true)(hI:OnSide A e):
 (fleetN c ps e).2=(fleetN c (only A ps) e).2/\((fleetN c ps e).2=0->only A (if u=true/\e.op=4 then useN dmg (fleetN c ps e).1 e else (fleetN c ps e).1)=(if u=true/\e.op=4 then useN dmg (fleetN c (only A ps) e).1 e else (fleetN c (only A ps) e).1)/\
  only (nt A) (if u=true/\e.op=4 then useN dmg (fleetN c ps e).1 e else (fleetN c ps e).1)=only (nt A) ps/\Apart A (if u=true/\e.op=4 then useN dmg (fleetN c ps e).1 e else (fleetN c ps e).1)):=by
 have hv2:validF c (only (nt A) ps)=true:=by
  rw[valid_split hap ho hlen,ad] at hv;exact hv.2
 have al:=fleet_in hap ho hlen hv2 hA λk=>by rw[hI k];exact hA
 refine⟨al.e,λh0=>?_⟩;obtain⟨s1,s2,s3,s4,_⟩:=al.s h0;split
 ·obtain⟨u1,u2,u3,_⟩:=use_side (dmg:=dmg) s3 s4 hA;exact⟨by rw[u1,s1],by rw[u2,s2],u3⟩
 ·exact⟨s1,s2,s3⟩
end
def go_split{u:Bool}{c:List KKind}{dmg:FormM}:∀(l:List EvM) {A:List Nat->Bool} {s:List PartM},(∀e∈l,OnSide A e)->Apart A s->validF c s=true->s.length+l.length<=20000->
 ((goR u c dmg l s).2=0↔(goR u c dmg (l.filter λe=>A e.part) (only A s)).2=0/\(goR u c dmg (l.filter λe=>nt A e.part) (only (nt A) s)).2=0)/\
 ((goR u c dmg l s).2=0->only A (goR u c dmg l s).1=(goR u c dmg (l.filter λe=>A e.part) (only A s)).1)
 | [],_,_,_,_,_,_=>⟨⟨λ_=>⟨rfl,rfl⟩,λ_=>rfl⟩,λ_=>rfl⟩
 | e::r,A,s,hI,hap,hv,hl=>by
  rw[List.length_cons] at hl;obtain⟨_,ho,_⟩:=valid_parts hv;have hI2:∀x∈r,OnSide A x:=λx hx=>hI x (List.mem_cons_of_mem _ hx);by_cases hA:A e.part=true
  ·have hn:¬nt A e.part=true:=by unfold nt;rw[hA];exact Bool.false_ne_true
   obtain⟨n1,n2⟩:=next_side (u:=u) (dmg:=dmg) hap ho (by omega) hv hA (hI e List.mem_cons_self);rw[List.filter_cons,t8 hA,List.filter_cons,ul hn,goR,goR,<-n1];split
   ·rename_i h0;obtain⟨m1,m2,m3⟩:=n2 h0;obtain⟨v1,v2⟩:=next_ok (u:=u) (dmg:=dmg) (by omega) h0;have ih:=go_split (u:=u) (dmg:=dmg) r hI2 m3 v1 (by omega);rw[m1,m2] at ih;exact ih
   ·rename_i h0;exact⟨⟨λk=>t7 k h0,λk=>t7 k.1 h0⟩,λk=>t7 k h0⟩
  ·have hn:nt A e.part=true:=by unfold nt;cases h:A e.part<;>simp_all
   obtain⟨n1,n2⟩:=next_side (A:=nt A) (u:=u) (dmg:=dmg) hap.nt ho (by omega) hv hn (hI e List.mem_cons_self).nt;rw[nt_nt] at n2;rw[List.filter_cons,ul hA,List.filter_cons,t8 hn,goR,goR,<-n1];split
   ·rename_i h0;obtain⟨m1,m2,m3⟩:=n2 h0;obtain⟨v1,v2⟩:=next_ok (u:=u) (dmg:=dmg) (by omega) h0;have m3:=m3.nt;rw[nt_nt] at m3;have ih:=go_split (u:=u) (dmg:=dmg) r hI2 m3 v1 (by omega);rw[m1,m2] at ih;exact ih
   ·rename_i h0;exact⟨⟨λk=>t7 k h0,λk=>t7 k.2 h0⟩,λk=>t7 k h0⟩
section
variable {α:Type}
def insV(lt:α->α->Bool)(x:α):List α->List α
 | []=>[x]
 | y::r=>if lt x y=true then y::insV lt x r else x::y::r
def bub_eq{lt:α->α->Bool}{x:α}:∀(R rest:List α),bubF lt R.length (R.reverse++x::rest)=(insV lt x R).reverse++rest
 | [],rest=>rfl
 | y::R,rest=>by
  have e:(y::R).reverse++x::rest=R.reverse++y::x::rest:=by simp
  have hl:R.reverse.length=R.length:=List.length_reverse
  have e1:(R.reverse++y::x::rest)[R.length+1]?=some x:=by
   rw[List.getElem?_append_right (by omega),hl,show R.length+1-R.length=1 by omega];rfl
  have e2:(R.reverse++y::x::rest)[R.length]?=some y:=by
   rw[List.getElem?_append_right (by omega),hl,Nat.sub_self];rfl
  rw[e,List.length_cons];unfold bubF insV;rw[e1,e2];simp only;split
  ·rw[List.set_append_right _ _ (by omega),hl,show R.length+1-R.length=1 by omega,List.set_append_right _ _ (by omega),hl,Nat.sub_self];show bubF lt R.length (R.reverse++x::y::rest)=_;rw[bub_eq R (y::rest)];simp
  ·simp
def insR_eq{lt:α->α->Bool}:∀(rest R:List α),insR lt rest.length R.length (R.reverse++rest)=(rest.foldl (λR x=>insV lt x R) R).reverse
 | [],R=>by rw[ct];rfl
 | x::rest,R=>by
  rw[bb,insR,bub_eq,bv,<-insR_eq rest]
  congr 1
  have:∀R:List α,(insV lt x R).length=R.length+1:=λR=>by
   induction R with
   | nil=>rfl
   | cons y R ih=>rw[insV];split<;>simp[ih]
  rw[this]
def insF_eq(lt:α->α->Bool)(l:List α):insF lt l=(l.foldl (λR x=>insV lt x R) []).reverse:=by
 cases l with
 | nil=>rfl
 | cons x l=>exact insR_eq (lt:=lt) l [x]
def insV_mem{lt:α->α->Bool}{x z:α}:∀{R:List α},z∈insV lt x R->z=x\/z∈R
 | [],h=>.inl (mem_singleton.1 h)
 | y::R,h=>by
  rw[insV] at h;split at h
  ·rcases mem_cons.1 h with rfl | h
   ·exact .inr ac
   ·exact(insV_mem h).imp id (af _)
  ·exact mem_cons.1 h
def sort_map{β:Type}{lt:α->α->Bool}{lt2:β->β->Bool}{f:α->β}{P:α->Prop}(hlt:∀x y,P x->P y->lt x y=lt2 (f x) (f y)):∀(l R:List α),(∀x∈l,P x)->(∀x∈R,P x)->(l.foldl (λR x=>insV lt x R) R).map f=(l.map f).foldl (λR x=>insV lt2 x R) (R.map f)
 | [],_,_,_=>rfl
 | x::l,R,hl,hR=>by
  have hx:=hl x ac
  have one:∀R:List α,(∀y∈R,P y)->(insV lt x R).map f=insV lt2 (f x) (R.map f):=λR=>by
   induction R with
   | nil=>intro _;rfl
   | cons y R ih=>
    intro h;rw[insV,aO,insV,<-hlt x y hx (h y ac)];split
    ·rw[aO,ih λz hz=>h z (af _ hz)]
    ·rfl
  rw[bv,aO,bv,<-one R hR];refine sort_map hlt l _ (λy hy=>hl y (af _ hy)) λy hy=>?_
  rcases insV_mem hy with rfl | hy
  ·exact hx
  ·exact hR y hy
variable {k:α->Int}
def insV_pw{x:α}:∀{R:List α},R.Pairwise (λa b=>k b<=k a)->(insV (λx y=>decide (k x<k y)) x R).Pairwise λa b=>k b<=k a
 | [],_=>.cons (λ_ h=>by cases h) .nil
 | y::R,h=>by
  have h0:=h;rw[bW] at h;rw[insV];split
  ·rename_i c;rw[wp] at c;refine .cons (λz hz=>?_) (insV_pw h.2)
   rcases insV_mem hz with rfl | hz
   ·omega
   ·exact h.1 z hz
  ·rename_i c;rw[wp] at c;refine .cons (λz hz=>?_) h0
   rcases mem_cons.1 hz with rfl | hz
   ·omega
   ·have:=h.1 z hz;omega
def insV_filter{x:α}{p:α->Bool}:∀{R:List α},R.Pairwise (λa b=>k b<=k a)->(insV (λx y=>decide (k x<k y)) x R).filter p=if p x=true then insV (λx y=>decide (k x<k y)) x (R.filter p) else R.filter p
 | [],_=>by
  rw[insV,ap];rfl
 | y::R,h=>by
  have h0:=h;rw[bW] at h;have ih:=insV_filter (x:=x) (p:=p) h.2;rw[insV];split
  ·rename_i c;rw[ap,ih,ap];by_cases hy:p y=true
   ·rw[t8 hy,t8 hy];split
    ·rw[insV,t8 c]
    ·rfl
   ·rw[ul hy,ul hy]
  ·rename_i c;rw[wp] at c;rw[ap];split
   ·cases hf:List.filter p (y::R) with
    | nil=>rfl
    | cons z r=>
     have hz:z∈y::R:=(mem_filter.1 (by rw[hf];exact ac)).1;rw[insV,ul];rw[wp]
     rcases mem_cons.1 hz with rfl | hz
     ·exact c
     ·have:=h.1 z hz;omega
   ·rfl
def sort_filterR{p:α->Bool}:∀(l R:List α),R.Pairwise (λa b=>k b<=k a)->(l.foldl (λR x=>insV (λx y=>decide (k x<k y)) x R) R).filter p=(l.filter p).foldl (λR x=>insV (λx y=>decide (k x<k y)) x R) (R.filter p)/\(l.foldl (λR x=>insV (λx y=>decide (k x<k y)) x R) R).Pairwise λa b=>k b<=k a
 | [],_,h=>⟨rfl,h⟩
 | x::l,R,h=>by
  obtain⟨i1,i2⟩:=sort_filterR (p:=p) l _ (insV_pw (x:=x) h);rw[bv];refine⟨?_,i2⟩;rw[i1,insV_filter h,ap];split<;>rfl
end
def ltEv_eq:ltEv cmpDay=λx y=>decide (x.day<y.day):=by
 funext x y;unfold ltEv cmpDay cmpI;rw[decide_eq_decide];split
 ·omega
 ·split<;>omega
def sortEv_filter(p:EvM->Bool)(l:List EvM):(sortEv l).filter p=sortEv (l.filter p):=by
 unfold sortEv;rw[ltEv_eq,insF_eq,insF_eq,List.filter_reverse,(sort_filterR (k:=EvM.day) (p:=p) l [] .nil).1];rfl
def sortEv_pw(l:List EvM):(sortEv l).Pairwise λa b=>a.day<=b.day:=by
 unfold sortEv;rw[ltEv_eq,insF_eq,List.pairwise_reverse];exact(sort_filterR (k:=EvM.day) (p:=λ_=>true) l [] .nil).2
def sorted_cut{q:EvM->Bool}(hq:∀a b:EvM,a.day<=b.day->q b=true->q a=true):∀{l:List EvM},l.Pairwise (λa b=>a.day<=b.day)->l=l.filter q++l.filter λe=>!q e
 | [],_=>rfl
 | x::l,h=>by
  rw[bW] at h;have ih:=sorted_cut hq h.2;rw[ap,ap];cases hx:q x
  ·have hn:l.filter q=[]:=filter_eq_nil_iff.2 λy hy k=>by rw[hq x y (h.1 y hy) k] at hx;cases hx
   rw[hn] at ih;simp only[d6,if_false,gc,if_true,hn,dt] at ih ⊢;rw[<-ih]
  ·simp only[if_true,Bool.not_true,d6,if_false,b9];rw[<-ih]
def pkE(p:RepM×Int):List EvM:=if p.2<0 then [] else (p.1.opts[p.2.toNat]?).toList
def evsN(l:List RepM)(ch:List Int):List EvM:=(l.zip ch).flatMap pkE
def DaysOk(l:List RepM):Prop:=∀r∈l,∀e∈r.opts,0<=e.day/\e.day<=40000
def pkE_mem{p:RepM×Int}{e:EvM}(h:e∈pkE p):e∈p.1.opts:=by
 unfold pkE at h;split at h
 ·cases h
 ·exact aj (Option.mem_toList.1 h)
def evs_mem{l:List RepM}{ch:List Int}{e:EvM}(h:e∈evsN l ch):∃r∈l,e∈r.opts:=by
 obtain⟨p,hp,he⟩:=mem_flatMap.1 h;exact⟨p.1,(f8 hp).1,pkE_mem he⟩
def pick_evs(day:Int):∀(L:List (RepM×Int)) (i:Nat),(pickAll day i L).map (·.1)=(L.flatMap pkE).filter λe=>decide (e.day<day)
 | [],_=>rfl
 | p::L,i=>by
  rw[pickAll,List.map_append,pick_evs day L,be,ca]
  congr 1
  unfold pick2 pkE;split
  ·rfl
  ·cases h:p.1.opts[p.2.toNat]? with
   | none=>rfl
   | some e=>
    simp only[Option.toList,ap,List.filter_nil,wp];split<;>rfl
def step_go{c:List KKind}{dmg:FormM}:∀(l:List (EvM×Int)) (s:List PartM),(stepGo c s l).2=(goR false c dmg (l.map (·.1)) s).2
 | [],_=>rfl
 | e::r,s=>by
  rw[stepGo,aO,goR];split
  ·rw[ul λk:false=true/\_=>bh k.1];exact step_go r _
  ·rfl
def follow_go{c:List KKind}{dmg:FormM}{l:List RepM}{ch:List Int}{day:Int}(hd:DaysOk l):(followN c l ch day).2=(goR false c dmg (sortEv ((evsN l ch).filter λe=>decide (e.day<day))) []).2:=by
 unfold followN;rw[step_go (dmg:=dmg)]
 congr 2
 unfold sortPk sortEv;rw[insF_eq,insF_eq,List.map_reverse,sort_map (lt2:=ltEv cmpDay) (P:=λx=>0<=x.1.day/\x.1.day<=40000) (λx y hx hy=>?_) _ _ (λx hx=>?_) (λx hx=>by cases hx),pick_evs]
 ·rfl
 ·rw[ltEv_eq];unfold ltPk cmpPk;rw[subI_eq (by omega),decide_eq_decide];omega
 ·obtain⟨p,hp,he⟩:=pickAll_mem hx;exact hd _ (f8 hp).1 _ he
def is_iff{c:List KKind}{dmg:FormM}{l:List RepM}{ch:List Int}(hd:DaysOk l):isN c l ch=true↔givenN c l ch 0=true/\(goR false c dmg (sortEv (evsN l ch)) []).2=0:=by
 unfold isN failsN;rw[wp];split
 ·rename_i h;rw[follow_go (dmg:=dmg) hd,List.filter_eq_self.2 λe he=>?_]
  ·exact⟨λk=>⟨h,k⟩,λk=>k.2⟩
  ·obtain⟨r,hr,he⟩:=evs_mem he;have:=hd r hr e he;rw[wp];omega
 ·rename_i h;exact⟨λk=>(by cases k),λk=>t7 k.1 h⟩
structure Part (chp ch:List Int):Prop where
 l:chp.length=ch.length
 e:∀(i:Nat) (n:Int),chp[i]?=some n->n<0\/ch[i]?=some n
def minD_le(m:Int):∀(es:List EvM) (n:Int),(es.foldl (dayStep n) m<=m)/\(n<0->∀e∈es,es.foldl (dayStep n) m<=e.day)
 | [],_=>⟨ce _,λ_ e h=>by cases h⟩
 | x::es,n=>by
  obtain⟨h1,h2⟩:=minD_le (dayStep n m x) es n
  have hs:dayStep n m x<=m/\(n<0->dayStep n m x<=x.day):=by
   unfold dayStep;split
   ·exact⟨(minI_le _ _).1,λ_=>(minI_le _ _).2⟩
   ·rename_i h;exact⟨ce _,λk=>t7 k h⟩
  rw[bv];refine⟨cb h1 hs.1,λhn e he=>?_⟩
  rcases mem_cons.1 he with rfl | he
  ·exact cb h1 (hs.2 hn)
  ·exact h2 hn e he
def minDs_le:∀(L:List (RepM×Int)) (m:Int),minDs m L<=m/\∀p∈L,p.2<0->∀e∈p.1.opts,minDs m L<=e.day
 | [],_=>⟨ce _,λp h=>by cases h⟩
 | p::L,m=>by
  obtain⟨h1,h2⟩:=minD_le m p.1.opts p.2;obtain⟨i1,i2⟩:=minDs_le L (p.1.opts.foldl (dayStep p.2) m);have hs:minDs m (p::L)=minDs (p.1.opts.foldl (dayStep p.2) m) L:=rfl;rw[hs];refine⟨cb i1 h1,λq hq hn e he=>?_⟩
  rcases mem_cons.1 hq with rfl | hq
  ·exact cb i1 (h2 hn e he)
  ·exact i2 q hq hn e he
def evs_part{m:Int}:∀{l:List RepM} {chp ch:List Int},Part chp ch->(∀p∈l.zip chp,p.2<0->∀e∈p.1.opts,m<=e.day)->(evsN l chp).filter (λe=>decide (e.day<m))=(evsN l ch).filter λe=>decide (e.day<m)
 | [],_,_,_,_=>by simp[evsN]
 | r::l,[],[],_,_=>rfl
 | r::l,[],b::ch,h,_=>by have:=h.l;simp at this
 | r::l,a::chp,[],h,_=>by have:=h.l;simp at this
 | r::l,a::chp,b::ch,h,hm=>by
  have ih:=evs_part (l:=l) (chp:=chp) (ch:=ch) ⟨by have:=h.l;simpa using this,λi n k=>by have:=h.e (i+1) n k;simpa using this⟩ λp hp=>hm p (by rw[b0];exact af _ hp);unfold evsN at ih ⊢;rw[b0,b0,be,be,ca,ca,ih]
  congr 1
  rcases h.e 0 a rfl with h0 | h0
  ·have hp:=hm (r,a) (by rw[b0];exact ac) h0;have h1:pkE (r,a)=[]:=t8 h0;rw[h1];refine(filter_eq_nil_iff.2 λe he=>?_).symm;have:=hp e (pkE_mem (p:=(r,b)) he);rw[wp];omega
  ·cases h0;rfl
def given_parts{c:List KKind}{l:List RepM}{ch:List Int}{k:Int}:givenN c l ch k=true↔catV c=true/\l.length=ch.length/\∀p∈l.zip ch,okG k p=true:=by
 unfold givenN;rw[ad,ad,wp,all_eq_true]
def okG_iff{k:Int}{p:RepM×Int}:okG k p=true↔choicesN p.1≠0/\k<=p.2/\p.2<choicesN p.1:=by
 unfold okG;simp only[ad,ay,wd,Int.not_le,Int.not_lt,ne_eq]
def go_less{u:Bool}{c:List KKind}{dmg:FormM}{l:List EvM}{q:EvM->Bool}(hq:∀a b:EvM,a.day<=b.day->q b=true->q a=true)(h:(goR u c dmg (sortEv l) []).2=0):(goR u c dmg (sortEv (l.filter q)) []).2=0:=by
 rw[<-sortEv_filter];rw[sorted_cut hq (sortEv_pw l)] at h;exact go_app _ _ _ h
def false_no{c:List KKind}{l:List RepM}{chp ch:List Int}(hd:DaysOk l)(h:isN c l ch=true)(hp:Part chp ch):falseN c l chp=false:=by
 obtain⟨_,h2⟩:=(is_iff (dmg:=.mk 0 0 []) hd).1 h;unfold falseN;obtain⟨_,hm⟩:=minDs_le (l.zip chp) 40001;rw[follow_go (dmg:=.mk 0 0 []) hd,evs_part hp hm,go_less (λa b h1 h2=>by rw[wp] at h2 ⊢;omega) h2];exact Bool.and_false _
def skip_ok{ch:List Int}:∀(d k:Nat),ch.length-k<=d->k<=skipN ch k/\(∀j n,k<=j->j<skipN ch k->ch[j]?=some n->0<=n)/\(∀n,ch[skipN ch k]?=some n->n<0)
 | 0,k,h=>by
  rw[skipN_end (by omega)];refine⟨bk _,λj n h1 h2=>by omega,λn h1=>?_⟩;have:=aE h1;omega
 | d+1,k,h=>by
  cases hk:ch[k]? with
  | none=>
   rw[skipN_end (by simpa using hk)];exact⟨bk _,λj n h1 h2=>by omega,λn h1=>by rw[hk] at h1;cases h1⟩
  | some n=>
   have hlt:=aE hk;by_cases hn:0<=n
   ·rw[skipN_pos hk hn];obtain⟨h1,h2,h3⟩:=skip_ok (ch:=ch) d (k+1) (by omega);refine⟨by omega,λj m j1 j2 j3=>?_,h3⟩;by_cases e:j=k
    ·subst e;rw[hk] at j3;cases j3;exact hn
    ·exact h2 j m (by omega) j2 j3
   ·rw[skipN_neg hk hn];exact⟨bk _,λj m h1 h2=>by omega,λm h1=>by rw[hk] at h1;cases h1;omega⟩
def tryN_mono{g:Nat->List (List Int)->Bool×List (List Int)}(hg:∀n out,∀x∈out,x∈(g n out).2):∀(m n:Nat) (out:List (List Int)),∀x∈out,x∈(tryN g m n out).2
 | 0,_,_,x,h=>h
 | m+1,n,out,x,h=>by
  rw[tryN];split
  ·exact tryN_mono hg m _ _ x (hg n out x h)
  ·exact hg n out x h
def fromN_mono{c:List KKind}{l:List RepM}{most:Int}:∀(F i:Nat) (ch:List Int) (out:List (List Int)),∀x∈out,x∈(fromN c l most F i ch out).2
 | 0,_,_,_,x,h=>h
 | F+1,i,ch,out,x,h=>by
  rw[fromN];split
  ·exact h
  ·split
   ·split
    ·exact bc _ h
    ·exact h
   ·exact tryN_mono (λn out x h=>fromN_mono F _ _ _ x h) _ _ _ x h
def tryN_full{g:Nat->List (List Int)->Bool×List (List Int)}{most:Int}(hg:∀n out,(g n out).1=false->((g n out).2.length:Int)=most):∀(m n:Nat) (out:List (List Int)),(tryN g m n out).1=false->((tryN g m n out).2.length:Int)=most
 | 0,_,_,h=>by cases h
 | m+1,n,out,h=>by
  rw[tryN] at h ⊢;split at h
  ·rename_i h1;rw[t8 h1];exact tryN_full hg m _ _ h
  ·rename_i h1;rw[ul h1];exact hg n out (by simpa using h1)
def fromN_full{c:List KKind}{l:List RepM}{most:Int}:∀(F i:Nat) (ch:List Int) (out:List (List Int)),(fromN c l most F i ch out).1=false->((fromN c l most F i ch out).2.length:Int)=most
 | 0,_,_,_,h=>by cases h
 | F+1,i,ch,out,h=>by
  rw[fromN] at h ⊢;split at h
  ·cases h
  rename_i h1;rw[ul h1];split at h
  ·split at h
   ·rename_i h3;rw[t8 h3];simp only[d7,wp] at h;rw[cp];exact h
   ·cases h
  ·exact tryN_full (λn out h=>fromN_full F _ _ _ h) _ _ _ h
def tryN_has{g:Nat->List (List Int)->Bool×List (List Int)}(hm:∀n out,∀x∈out,x∈(g n out).2){x:List Int}:∀(m s:Nat) (out:List (List Int)),(tryN g m s out).1=true->∀n,s<=n->n<s+m->(∀out,(g n out).1=true->x∈(g n out).2)->x∈(tryN g m s out).2
 | 0,_,_,_,n,h1,h2,_=>by omega
 | m+1,s,out,h,n,h1,h2,hx=>by
  rw[tryN] at h ⊢;split at h
  ·rename_i k;rw[t8 k];by_cases e:n=s
   ·subst e;exact tryN_mono hm m _ _ x (hx out k)
   ·exact tryN_has hm m _ _ h n (by omega) (by omega) hx
  ·cases h
def fromN_has{c:List KKind}{l:List RepM}{most:Int}{ch:List Int}(hd:DaysOk l)(h:isN c l ch=true):∀(F i:Nat) (chp:List Int) (out:List (List Int)),Part chp ch->(∀j n,j<i->chp[j]?=some n->0<=n)->i<=l.length->l.length<F+i->(fromN c l most F i chp out).1=true->ch∈(fromN c l most F i chp out).2
 | 0,i,chp,out,hp,hi,hil,hF,_=>by omega
 | F+1,i,chp,out,hp,hi,hil,hF,ht=>by
  have hl:=is_len h;obtain⟨hg,_⟩:=(is_iff (dmg:=.mk 0 0 []) hd).1 h;obtain⟨_,_,hg⟩:=given_parts.1 hg;obtain⟨k1,k2,k3⟩:=skip_ok (ch:=chp) _ i (Nat.le_refl _)
  have hdone:∀j n,j<skipN chp i->chp[j]?=some n->0<=n:=λj n hj hn=>by
   by_cases e:j<i
   ·exact hi j n e hn
   ·exact k2 j n (by omega) hj hn
  rw[fromN,false_no hd h hp,ul Bool.false_ne_true] at ht ⊢
  cases hr:l[skipN chp i]? with
  | none=>
   have hge:l.length<=skipN chp i:=by simpa using hr
   have e:chp=ch:=by
    apply List.ext_getElem?;intro j
    cases hj:chp[j]? with
    | none=>
     have:chp.length<=j:=by simpa using hj
     have h2:=hp.l;exact(List.getElem?_eq_none (by omega)).symm
    | some n=>
     have hjl:=aE hj;have h2:=hp.l;have:=hdone j n (by omega) hj
     rcases hp.e j n hj with k | k
     ·omega
     ·exact k.symm
   subst e;simp only;rw[t8 h];exact List.mem_append_right _ (List.mem_singleton.2 rfl)
  | some r=>
   rw[hr] at ht;simp only at ht ⊢;have hlt:=aE hr;obtain⟨n,hn⟩:∃n,ch[skipN chp i]?=some n:=⟨_,List.getElem?_eq_getElem (by omega)⟩;have hz:(r,n)∈l.zip ch:=List.mem_of_getElem? (i:=skipN chp i) (by rw[List.getElem?_zip_eq_some];exact⟨hr,hn⟩);obtain⟨_,o1,o2⟩:=okG_iff.1 (hg _ hz);simp only at o1 o2;refine tryN_has (λn out x h=>fromN_mono F _ _ _ x h) _ _ _ ht n.toNat (Nat.zero_le _) (by omega) λout ho=>fromN_has hd h F _ _ out ⟨by rw[List.length_set];exact hp.l,λj m hj=>?_⟩ (λj m hj hm=>?_) (by omega) (by omega) ho
   ·rw[List.getElem?_set] at hj;split at hj
    ·rename_i e;subst e;split at hj
     ·cases hj;right;rw[hn,Int.toNat_of_nonneg o1]
     ·cases hj
    ·exact hp.e j m hj
   ·rw[List.getElem?_set] at hm;split at hm
    ·split at hm
     ·cases hm;exact Int.natCast_nonneg _
     ·cases hm
    ·rename_i e;exact hdone j m (by omega) hm
def start_part{c:List KKind}{l:List RepM}{ch:List Int}(hg:givenN c l ch 0=true):Part (startN l) ch:=by
 obtain⟨_,hl,hg⟩:=given_parts.1 hg;refine⟨by unfold startN;rw[bw];exact hl,λi n hn=>?_⟩;obtain⟨r,hr,rfl⟩:=getMap hn;have hlt:=aE hr;obtain⟨m,hm⟩:∃m,ch[i]?=some m:=⟨_,ax (by omega)⟩;have hz:(r,m)∈l.zip ch:=aj (i:=i) (by rw[dd];exact⟨hr,hm⟩);obtain⟨_,o1,o2⟩:=okG_iff.1 (hg _ hz);simp only at o1 o2;split
 ·exact .inl (by decide)
 ·right;rw[hm];congr 1;omega
def all_has{c:List KKind}{l:List RepM}{ch:List Int}{most:Int}(hd:DaysOk l)(h0:(allN c l most).2=0)(hn:((allN c l most).1.length:Int)≠most)(h:isN c l ch=true):ch∈(allN c l most).1:=by
 unfold allN at h0 hn ⊢;split at h0
 ·cases h0
 rename_i k1;rw[ul k1] at hn ⊢;split at h0
 ·cases h0
 rename_i k2;rw[ul k2] at hn ⊢;split at h0;rotate_left
 ·exact t7 h0 ‹_›
 rename_i k3;rw[t8 k3] at hn ⊢;split at h0
 ·cases h0
 rename_i k4;rw[ul k4] at hn ⊢;simp only at hn ⊢;unfold histN at hn ⊢;have hg:=((is_iff (dmg:=.mk 0 0 []) hd).1 h).1;refine fromN_has hd h _ _ _ _ (start_part hg) (λj n hj=>t7 hj (fy _)) (eb _) (by omega) ?_;cases ht:(fromN c l most (l.length+1) 0 (startN l) []).1
 ·exact t7 (fromN_full _ _ _ _ ht) hn
 ·rfl
def rtF(f:List Nat):Nat->Nat->Nat
 | 0,i=>i
 | s+1,i=>if f.getD i 0=i then i else rtF f s (f.getD i 0)
def rtN(f:List Nat)(i:Nat):Nat:=rtF f i i
def forest_le{f:List Nat}(h:Forest f){i:Nat}(hi:i<f.length):f.getD i 0<=i:=by
 rw[aX,ax hi];exact h i _ (ax hi)
def rtF_fuel{f:List Nat}(h:Forest f):∀(s i:Nat),i<f.length->i<=s->rtF f s i=rtF f i i:=by
 intro s
 induction s using cl with
 | _ s ih=>
  intro i hi hs;have hle:=forest_le h hi
  cases s with
  | zero=>
   obtain rfl:i=0:=by omega
   rfl
  | succ s=>
   cases i with
   | zero=>
    have h0:f.getD 0 0=0:=by omega
    show(if f.getD 0 0=0 then 0 else rtF f s (f.getD 0 0))=0;rw[t8 h0]
   | succ i=>
    rw[rtF,rtF];split
    ·rfl
    ·rw[ih s (by omega) _ (by omega) (by omega)];by_cases hsi:s=i
     ·subst hsi;rw[ih s (by omega) _ (by omega) (by omega)]
     ·rw[ih i (by omega) _ (by omega) (by omega)]
def rtN_step{f:List Nat}(h:Forest f){i:Nat}(hi:i<f.length):rtN f i=rtN f (f.getD i 0):=by
 have hle:=forest_le h hi;by_cases e:f.getD i 0=i
 ·rw[e]
 ·unfold rtN
  cases i with
  | zero=>omega
  | succ i=>
   rw[rtF,ul e];exact rtF_fuel h i (f.getD (i+1) 0) (by omega) (by omega)
def rtN_fix{f:List Nat}{i:Nat}(e:f.getD i 0=i):rtN f i=i:=by
 unfold rtN
 cases i with
 | zero=>rfl
 | succ i=>rw[rtF,t8 e]
def rtN_ok{f:List Nat}(h:Forest f):∀i,i<f.length->rtN f i<=i/\f.getD (rtN f i) 0=rtN f i:=by
 intro i
 induction i using cl with
 | _ i ih=>
  intro hi;have hle:=forest_le h hi;by_cases e:f.getD i 0=i
  ·rw[rtN_fix e];exact⟨bk _,e⟩
  ·rw[rtN_step h hi];have:=ih (f.getD i 0) (by omega) (by omega);exact⟨by omega,this.2⟩
def getD_set{f:List Nat}{i x j:Nat}(hi:i<f.length):(f.set i x).getD j 0=if j=i then x else f.getD j 0:=by
 rw[aX,aX];by_cases e:j=i
 ·subst e;rw[t8 rfl,eg hi];rfl
 ·rw[ul e,e6 (λh=>e h.symm)]
def rtN_half{f:List Nat}(h:Forest f){i x:Nat}(hi:i<f.length)(hx:x<=i)(hr:rtN f x=rtN f i)(hne:x=i->f.getD i 0=i):∀j,j<f.length->rtN (f.set i x) j=rtN f j:=by
 have hF:=h.set (y:=x) hx;intro j
 induction j using cl with
 | _ j ih=>
  intro hj
  have hj2:j<(f.set i x).length:=by rw[b8];exact hj
  rw[rtN_step hF hj2,getD_set hi];split
  ·rename_i e;subst e;by_cases e:x=j
   ·subst e;rw[rtN_fix (show(f.set x x).getD x 0=x by rw[getD_set hi,t8 rfl]),rtN_fix (hne rfl)]
   ·rw[ih x (by omega) (by omega),hr]
  ·have hle:=forest_le h hj;by_cases e:f.getD j 0=j
   ·rename_i hji;rw[e,rtN_fix e,rtN_fix (show(f.set i x).getD j 0=j by rw[getD_set hi,ul hji,e])]
   ·rw[ih _ (by omega) (by omega),<-rtN_step h hj]
def rootF_rt:∀(s:Nat) (f:List Nat) (i:Nat),Forest f->i<f.length->i<=s->(rootF s f i).1=rtN f i/\∀j,j<f.length->rtN (rootF s f i).2 j=rtN f j
 | 0,f,i,h,hi,hs=>by
  obtain rfl:i=0:=by omega
  exact⟨rfl,λ_ _=>rfl⟩
 | s+1,f,i,h,hi,hs=>by
  have hle:=forest_le h hi;unfold rootF;split
  ·rename_i e;exact⟨(rtN_fix e).symm,λ_ _=>rfl⟩
  ·rename_i e
   have hp:f.getD i 0<f.length:=by omega
   have hle2:=forest_le h hp
   have hr:rtN f (f.getD (f.getD i 0) 0)=rtN f i:=by rw[<-rtN_step h hp,<-rtN_step h hi]
   have hF:=h.set (i:=i) (y:=f.getD (f.getD i 0) 0) (by omega);have hh:=rtN_half h hi (by omega) hr (λe2=>by omega);obtain⟨k1,k2⟩:=rootF_rt s _ (f.getD (f.getD i 0) 0) hF (by rw[List.length_set];omega) (by omega);refine⟨by rw[k1,hh _ (by omega),hr],λj hj=>?_⟩;rw[k2 j (by rw[List.length_set];exact hj),hh j hj]
def rootN_rt{f:List Nat}{i:Nat}(h:Forest f)(hi:i<f.length):(rootN f i).1=rtN f i/\∀j,j<f.length->rtN (rootN f i).2 j=rtN f j:=rootF_rt i f i h hi (bk _)
def rtN_link{f:List Nat}(h:Forest f){a b:Nat}(hb:b<f.length)(hab:a<=b)(ha:f.getD a 0=a)(hbb:f.getD b 0=b):∀j,j<f.length->rtN (f.set b a) j=if rtN f j=b then a else rtN f j:=by
 have hF:=h.set (y:=a) hab;intro j
 induction j using cl with
 | _ j ih=>
  intro hj
  have hj2:j<(f.set b a).length:=by rw[b8];exact hj
  by_cases e:j=b
  ·subst e;rw[rtN_fix hbb,t8 rfl,rtN_step hF hj2,getD_set hb,t8 rfl];refine rtN_fix ?_;rw[getD_set hb];split
   ·rfl
   ·exact ha
  ·have hg:(f.set b a).getD j 0=f.getD j 0:=by rw[getD_set hb,ul e]
   have hle:=forest_le h hj;by_cases e2:f.getD j 0=j
   ·rw[rtN_fix (hg.trans e2),rtN_fix e2,ul e]
   ·rw[rtN_step hF hj2,hg,ih _ (by omega) (by omega),<-rtN_step h hj]
def join_rt{f:List Nat}{i k:Nat}(h:Forest f)(hi:i<f.length)(hk:k<f.length):∀j,j<f.length->rtN (joinN f i k) j=if rtN f j=max (rtN f i) (rtN f k) then min (rtN f i) (rtN f k) else rtN f j:=by
 obtain⟨a1,a2,a3⟩:=root_ok h hi;obtain⟨a4,a5⟩:=rootN_rt h hi
 have hk2:k<(rootN f i).2.length:=by rw[a2];exact hk
 obtain⟨b1,b2,b3⟩:=root_ok (i:=k) a1 hk2;obtain⟨b4,b5⟩:=rootN_rt (i:=k) a1 hk2
 have c5:∀j,j<f.length->rtN (rootN (rootN f i).2 k).2 j=rtN f j:=λj hj=>by rw[b5 j (by rw[a2];exact hj),a5 j hj]
 have ra:=rtN_ok h i hi;have rb:=rtN_ok h k hk;intro j hj;unfold joinN;rw[a4,b4,a5 k hk]
 have hl:(rootN (rootN f i).2 k).2.length=f.length:=by rw[b2,a2]
 have fx:∀r,r<f.length->rtN f r=r->(rootN (rootN f i).2 k).2.getD r 0=r:=λr hr e=>by
  have h1:=rtN_ok b1 r (by rw[hl];exact hr);rw[c5 r hr,e] at h1;exact h1.2
 have e1:rtN f (rtN f i)=rtN f i:=rtN_fix ra.2;have e2:rtN f (rtN f k)=rtN f k:=rtN_fix rb.2;rw[rtN_link b1 (by rw[hl];omega) (by omega) ?_ ?_ j (by rw[hl];exact hj),c5 j hj]
 ·rcases g6 (rtN f i) (rtN f k) with hh | hh
  ·rw[Nat.min_eq_left hh];exact fx _ (by omega) e1
  ·rw[Nat.min_eq_right hh];exact fx _ (by omega) e2
 ·rcases g6 (rtN f i) (rtN f k) with hh | hh
  ·rw[Nat.max_eq_right hh];exact fx _ (by omega) e2
  ·rw[Nat.max_eq_left hh];exact fx _ (by omega) e1
inductive Conn (M:List (Nat×List Nat)):Nat->Nat->Prop
 | refl (i):Conn M i i
 | step {i j k p}:Conn M i j->(j,p)∈M->(k,p)∈M->Conn M i k
def Conn.trans{M:List (Nat×List Nat)}{i j k:Nat}(h:Conn M i j)(h2:Conn M j k):Conn M i k:=by
 induction h2 with
 | refl=>exact h
 | step _ a b ih=>exact .step ih a b
def Conn.symm{M:List (Nat×List Nat)}{i j:Nat}(h:Conn M i j):Conn M j i:=by
 induction h with
 | refl=>exact .refl _
 | step _ a b ih=>exact(Conn.step (.refl _) b a).trans ih
def Conn.mono{M N:List (Nat×List Nat)}(hs:∀x∈M,x∈N){i j:Nat}(h:Conn M i j):Conn N i j:=by
 induction h with
 | refl=>exact .refl _
 | step _ a b ih=>exact .step ih (hs _ a) (hs _ b)
structure LkInv (n:Nat) (M:List (Nat×List Nat)) (st:List Nat×LkM):Prop where
 ok:LkOk n st
 lt:∀x∈M,x.1<n
 has:∀p,bl p st.2=true↔∃i,(i,p)∈M
 first:∀p,bl p st.2=true->(getM 0 p st.2,p)∈M
 conn:∀i j,i<n->j<n->(rtN st.1 i=rtN st.1 j↔Conn M i j)
def conn_one{M:List (Nat×List Nat)}{x:Nat×List Nat}(hx:∀i,(i,x.2)∈M->i=x.1){i j:Nat}(h:Conn (M++[x]) i j):Conn M i j:=by
 induction h with
 | refl=>exact .refl _
 | @step j k p _ a b ih=>
  rcases mem_append.1 a with a | a
  ·rcases mem_append.1 b with b | b
   ·exact .step ih a b
   ·rw[mem_singleton] at b;have:=hx j (by rw[<-b];exact a);rw[show k=j by rw[this,<-b]];exact ih
  ·rw[mem_singleton] at a
   rcases mem_append.1 b with b | b
   ·have:=hx k (by rw[<-a];exact b);rw[show k=j by rw[this,<-a]];exact ih
   ·rw[mem_singleton] at b;rw[show k=j from(by rw[<-b] at a;exact(congrArg fst a).symm)];exact ih
def LkInv.part{n i:Nat}{M:List (Nat×List Nat)}{st:List Nat×LkM}(h:LkInv n M st)(hi:i<n)(p:List Nat):LkInv n (M++[(i,p)]) (linkP i st p):=by
 have hok:=h.ok.part hi p
 have hlt:∀x∈M++[(i,p)],x.1<n:=λx hx=>by
  rcases mem_append.1 hx with hx | hx
  ·exact h.lt x hx
  ·rw[mem_singleton] at hx;rw[hx];exact hi
 unfold linkP at hok ⊢;cases hh:bl p st.2
 ·rw[hh] at hok;simp only[d6,if_false] at hok ⊢
  have hno:∀j,(j,p)∈M->False:=λj hj=>by have:=(h.has p).2 ⟨j,hj⟩;rw[hh] at this;cases this
  refine⟨hok,hlt,λq=>?_,λq hq=>?_,λa b ha hb=>?_⟩
  ·rw[iA,dc,wp,h.has];constructor
   ·rintro(rfl | ⟨j,hj⟩)
    ·exact⟨i,cd _ ac⟩
    ·exact⟨j,bc _ hj⟩
   ·rintro⟨j,hj⟩
    rcases mem_append.1 hj with hj | hj
    ·exact .inr ⟨j,hj⟩
    ·rw[mem_singleton] at hj;exact .inl (congrArg snd hj)
  ·rw[cz];split
   ·rename_i e;subst e;exact cd _ ac
   ·rename_i e;rw[iA,dc,wp] at hq;exact bc _ (h.first q (hq.resolve_left e))
  ·rw[h.conn a b ha hb];exact⟨Conn.mono λx hx=>bc _ hx,conn_one λj hj=>(hno j hj).elim⟩
 ·rw[hh] at hok;simp only[if_true] at hok ⊢;have hf:=h.first p hh;have hg:=h.lt _ hf;refine⟨hok,hlt,λq=>?_,λq hq=>bc _ (h.first q hq),λa b ha hb=>?_⟩
  ·rw[h.has];constructor
   ·rintro⟨j,hj⟩;exact⟨j,bc _ hj⟩
   ·rintro⟨j,hj⟩
    rcases mem_append.1 hj with hj | hj
    ·exact⟨j,hj⟩
    ·rw[mem_singleton] at hj;rw[show q=p from congrArg snd hj];exact⟨_,hf⟩
  ·have hl:=h.ok.l;have hja:=join_rt h.ok.f (i:=getM 0 p st.2) (k:=i) (by rw[hl];exact hg) (by rw[hl];exact hi);rw[hja a (by rw[hl];exact ha),hja b (by rw[hl];exact hb)];have hg1:=h.conn;have up:∀{x y},Conn M x y->Conn (M++[(i,p)]) x y:=λhc=>hc.mono λx hx=>bc _ hx;have hgi:Conn (M++[(i,p)]) (getM 0 p st.2) i:=.step (.refl _) (bc _ hf) (cd _ ac)
   have key:Conn (M++[(i,p)]) a b↔Conn M a b\/(Conn M a (getM 0 p st.2)/\Conn M i b)\/(Conn M a i/\Conn M (getM 0 p st.2) b):=by
    constructor
    ·intro hc
     induction hc with
     | refl=>exact .inl (.refl _)
     | @step j k q hc ha2 hb2 ih=>
      have ih:=ih (by
       rcases mem_append.1 ha2 with h2 | h2
       ·exact h.lt _ h2
       ·rw[mem_singleton] at h2;rw[show j=i from congrArg fst h2];exact hi)
      have tail:∀{x},Conn M x j->(j,q)∈M->(k,q)∈M->Conn M x k:=λc1 c2 c3=>.step c1 c2 c3
      rcases mem_append.1 ha2 with h2 | h2
      ·rcases mem_append.1 hb2 with h3 | h3
       ·rcases ih with c | ⟨c1,c2⟩ | ⟨c1,c2⟩
        ·exact .inl (.step c h2 h3)
        ·exact .inr (.inl ⟨c1,.step c2 h2 h3⟩)
        ·exact .inr (.inr ⟨c1,.step c2 h2 h3⟩)
       ·rw[mem_singleton] at h3;obtain⟨e1,e2⟩:k=i/\q=p:=⟨congrArg fst h3,congrArg snd h3⟩;subst e1;subst e2;have hjg:Conn M j (getM 0 q st.2):=.step (.refl _) h2 hf
        rcases ih with c | ⟨c1,c2⟩ | ⟨c1,c2⟩
        ·exact .inr (.inl ⟨c.trans hjg,.refl _⟩)
        ·exact .inr (.inl ⟨c1,.refl _⟩)
        ·exact .inl c1
      ·rw[mem_singleton] at h2;obtain⟨e1,e2⟩:j=i/\q=p:=⟨congrArg fst h2,congrArg snd h2⟩;subst e1;subst e2
       rcases mem_append.1 hb2 with h3 | h3
       ·have hgk:Conn M (getM 0 q st.2) k:=.step (.refl _) hf h3
        rcases ih with c | ⟨c1,c2⟩ | ⟨c1,c2⟩
        ·exact .inr (.inr ⟨c,hgk⟩)
        ·exact .inl (c1.trans hgk)
        ·exact .inr (.inr ⟨c1,hgk⟩)
       ·rw[mem_singleton] at h3;rw[show k=j from congrArg fst h3];exact ih
    ·rintro(c | ⟨c1,c2⟩ | ⟨c1,c2⟩)
     ·exact up c
     ·exact(up c1).trans (hgi.trans (up c2))
     ·exact(up c1).trans (hgi.symm.trans (up c2))
   rw[key,<-hg1 a b ha hb,<-hg1 a _ ha hg,<-hg1 i b hi hb,<-hg1 a i ha hi,<-hg1 _ b hg hb];generalize rtN st.1 a=ra;generalize rtN st.1 b=rb;generalize rtN st.1 i=ri;generalize rtN st.1 (getM 0 p st.2)=rg;split<;>split<;>omega
def LkInv.parts{n i:Nat}(hi:i<n):∀(ps:List (List Nat)) {M:List (Nat×List Nat)} {st:List Nat×LkM},LkInv n M st->LkInv n (M++ps.map λp=>(i,p)) (ps.foldl (linkP i) st)
 | [],M,st,h=>by rw[d9,ct];exact h
 | p::ps,M,st,h=>by
  have:=LkInv.parts hi ps (h.part hi p);rw[cv] at this;exact this
def ment:Nat->List RepM->List (Nat×List Nat)
 | _,[]=>[]
 | k,r::l=>(namesR r).map (λp=>(k,p))++ment (k+1) l
def mem_ment{p:List Nat}:∀{l:List RepM} {k i:Nat},(i,p)∈ment k l↔∃r,k<=i/\l[i-k]?=some r/\p∈namesR r
 | [],k,i=>by simp[ment]
 | r::l,k,i=>by
  rw[ment,mem_append,mem_ment,mem_map];constructor
  ·rintro(⟨q,hq,e⟩ | ⟨r',h1,h2,h3⟩)
   ·cases e;exact⟨r,bk _,by rw[dD];rfl,hq⟩
   ·exact⟨r',by omega,by rw[show i-k=(i-(k+1))+1 by omega];exact h2,h3⟩
  ·rintro⟨r',h1,h2,h3⟩;by_cases e:i=k
   ·subst e;rw[dD] at h2;cases h2;exact .inl ⟨p,h3,rfl⟩
   ·rw[show i-k=(i-(k+1))+1 by omega] at h2;exact .inr ⟨r',by omega,h2,h3⟩
def ment_app:∀(l:List RepM) (k:Nat) (r:RepM),ment k (l++[r])=ment k l++(namesR r).map λp=>(k+l.length,p)
 | [],k,r=>by simp[ment]
 | x::l,k,r=>by
  rw[b9,ment,ment,ment_app l,cv,bb,show k+1+l.length=k+(l.length+1) by omega]
def conn_in{M:List (Nat×List Nat)}{i j:Nat}(h:Conn M i j):i=j\/((∃p,(i,p)∈M)/\∃p,(j,p)∈M):=by
 induction h with
 | refl=>exact .inl rfl
 | step _ a b ih=>
  rcases ih with rfl | ⟨h1,_⟩
  ·exact .inr ⟨⟨_,a⟩,⟨_,b⟩⟩
  ·exact .inr ⟨h1,⟨_,b⟩⟩
def rtN_app{f:List Nat}(h:Forest f):∀j,j<f.length->rtN (f++[f.length]) j=rtN f j:=by
 have hF:Forest (f++[f.length]):=by
  intro j x hx;rw[List.getElem?_append] at hx;split at hx
  ·exact h j x hx
  ·rename_i hj
   cases hjj:j-f.length with
   | zero=>rw[hjj] at hx;simp at hx;omega
   | succ q=>rw[hjj] at hx;simp at hx
 intro j
 induction j using cl with
 | _ j ih=>
  intro hj
  have hg:(f++[f.length]).getD j 0=f.getD j 0:=by
   rw[aX,aX,List.getElem?_append_left hj]
  have hle:=forest_le h hj;by_cases e:f.getD j 0=j
  ·rw[rtN_fix (hg.trans e),rtN_fix e]
  ·rw[rtN_step hF (by rw[cp];omega),hg,ih (f.getD j 0) (by omega) (by omega),<-rtN_step h hj]
def LkInv.new{n:Nat}{M:List (Nat×List Nat)}{st:List Nat×LkM}(h:LkInv n M st):LkInv (n+1) M (st.1++[st.1.length],st.2):=by
 refine⟨h.ok.new,λx hx=>Nat.lt_succ_of_lt (h.lt x hx),h.has,h.first,?_⟩;have hl:=h.ok.l
 have hn:rtN (st.1++[st.1.length]) n=n:=by
  refine rtN_fix ?_;rw[aX,cf (by omega),hl,dD];rfl
 have ho:∀{j},¬Conn M n j\/n=j:=by
  intro j;by_cases e:n=j
  ·exact .inr e
  ·refine .inl λhc=>?_
   rcases conn_in hc with e2 | ⟨⟨p,hp⟩,_⟩
   ·exact e e2
   ·have:=h.lt _ hp;simp only at this;omega
 have hlow:∀{j},j<n->rtN (st.1++[st.1.length]) j<n:=λ{j} hj=>by
  rw[rtN_app h.ok.f j (by omega)];have:=(rtN_ok h.ok.f j (by omega)).1;omega
 intro i j hi hj;simp only;by_cases ei:i=n
 ·subst ei;by_cases ej:j=i
  ·subst ej;exact⟨λ_=>.refl _,λ_=>rfl⟩
  ·rw[hn];refine⟨λe=>?_,λhc=>?_⟩
   ·have:=hlow (j:=j) (by omega);omega
   ·exact t7 (ho.resolve_left λh=>h hc) λe=>ej e.symm
 ·by_cases ej:j=n
  ·subst ej;rw[hn];refine⟨λe=>?_,λhc=>?_⟩
   ·have:=hlow (j:=i) (by omega);omega
   ·exact t7 (ho.resolve_left λh=>h hc.symm) λe=>ei e.symm
  ·rw[rtN_app h.ok.f i (by omega),rtN_app h.ok.f j (by omega)];exact h.conn i j (by omega) (by omega)
def linked_inv(l:List RepM):LkInv l.length (ment 0 l) (linkedN l):=by
 have h:∀(l2 l1:List RepM) (st:List Nat×LkM),LkInv l1.length (ment 0 l1) st->LkInv (l1++l2).length (ment 0 (l1++l2)) (l2.foldl linkR st):=by
  intro l2
  induction l2 with
  | nil=>intro l1 st h;rw[ct];exact h
  | cons r l2 ih=>
   intro l1 st h;have h2:=LkInv.parts (i:=l1.length) (Nat.lt_succ_self _) (namesR r) h.new
   have h3:=ih (l1++[r]) (linkR st r) (by
    rw[cp,List.length_singleton,ment_app,et];unfold linkR;rw[h.ok.l] at h2 ⊢
    exact h2)
   rw[cv] at h3;exact h3
 have:=h l [] ([],[]) ⟨⟨λj x hx=>by simp at hx,rfl,λq hq=>by simp[bl] at hq⟩,λx hx=>by simp[ment] at hx,λp=>by simp[bl,ment],λp hp=>by simp[bl] at hp,λi j hi=>t7 hi (fy _)⟩;exact this
def ofAll_eq{k:Nat}{f:List Nat}(hf:Forest f)(hk:k<f.length):∀n,n<=f.length->(∀j,j<f.length->rtN (ofAll k f n).1 j=rtN f j)/\(ofAll k f n).2=(ck n).filter λi=>decide (rtN f i=rtN f k)
 | 0,_=>⟨λ_ _=>rfl,rfl⟩
 | n+1,hn=>by
  obtain⟨a1,a2⟩:=ofAll_eq hf hk n (by omega);obtain⟨b1,b2,_⟩:=ofAll_ok hf hk n (by omega);rw[ofAll_s,ofStep];obtain⟨c1,c2,_⟩:=root_ok (i:=n) b1 (by omega);obtain⟨c4,c5⟩:=rootN_rt (i:=n) b1 (by omega);obtain⟨d4,d5⟩:=rootN_rt (i:=k) c1 (by omega);refine⟨λj hj=>?_,?_⟩
  ·show rtN (rootN (rootN (ofAll k f n).1 n).2 k).2 j=_;rw[d5 j (by omega),c5 j (by omega),a1 j hj]
  ·show(if _ then _ else _)=_;rw[d4,c4,c5 k (by omega),a1 n (by omega),a1 k hk,a2,f9,ca];by_cases e:rtN f n=rtN f k
   ·rw[t8 e];simp[e]
   ·rw[ul e];simp[e]
def linkOf_eq(l:List RepM)(part:List Nat):linkOf l part=if bl part (linkedN l).2=true then (ck l.length).filter (λi=>decide (rtN (linkedN l).1 i=rtN (linkedN l).1 (getM 0 part (linkedN l).2))) else []:=by
 unfold linkOf;split
 ·rename_i h;have hi:=linked_inv l;have hk:=hi.lt _ (hi.first part h);have hl:=hi.ok.l;exact(ofAll_eq hi.ok.f (by rw[hl];exact hk) l.length (by omega)).2
 ·rfl
def mem_linkOf{l:List RepM}{part:List Nat}{i:Nat}:i∈linkOf l part↔i<l.length/\∃k,(k,part)∈ment 0 l/\Conn (ment 0 l) k i:=by
 have hi:=linked_inv l;rw[linkOf_eq];split
 ·rename_i h;have hf:=hi.first part h;have hk:=hi.lt _ hf;rw[mem_filter,mem_range,wp];constructor
  ·rintro⟨h1,h2⟩;exact⟨h1,_,hf,(hi.conn _ _ hk h1).1 h2.symm⟩
  ·rintro⟨h1,k,h2,h3⟩;exact⟨h1,((hi.conn _ _ hk h1).2 ((Conn.step (.refl _) hf h2).trans h3)).symm⟩
 ·rename_i h;refine⟨λh=>(by cases h),?_⟩;rintro⟨_,k,h2,_⟩;exact t7 ((hi.has part).2 ⟨k,h2⟩) h
def linkOf_sorted(l:List RepM)(part:List Nat):(linkOf l part).Pairwise (·<·):=by
 rw[linkOf_eq];split
 ·exact List.Pairwise.filter _ List.pairwise_lt_range
 ·exact .nil
def flatMap_cg{α β:Type}{f g:α->List β}{l:List α}(h:∀x∈l,f x=g x):l.flatMap f=l.flatMap g:=by
 rw[fu,fu,bd h]
def mem_comp{p:List Nat}:∀(l acc:List (List Nat)),p∈l.foldl (λacc x=>if acc.getLast?=some x then acc else acc++[x]) acc↔p∈acc\/p∈l
 | [],acc=>by simp
 | x::l,acc=>by
  rw[bv,mem_comp l];split
  ·rename_i h;have:=List.mem_of_getLast? h;rw[mem_cons];constructor
   ·rintro(h1 | h1)
    ·exact .inl h1
    ·exact .inr (.inr h1)
   ·rintro(h1 | rfl | h1)
    ·exact .inl h1
    ·exact .inl this
    ·exact .inr h1
  ·rw[mem_append,mem_singleton,mem_cons,or_assoc]
def mem_setN{p:List Nat}{l:List (List Nat)}:p∈setN l↔p∈l:=by
 unfold setN compN;rw[mem_comp,(sortP l).mem_iff];simp
def mem_names{r:RepM}(hv:validR r=true){p:List Nat}:p∈namesR r↔∃e∈r.opts,p∈namesEv e:=by
 unfold namesR;rw[hv,ul (by decide),mem_setN,List.mem_flatten];constructor
 ·rintro⟨l,h1,h2⟩;obtain⟨e,he,rfl⟩:=mem_map.1 h1;exact⟨e,he,h2⟩
 ·rintro⟨e,he,h⟩;exact⟨_,ba he,h⟩
def opts_valid:∀{es:List EvM} {seen:List (EvM×Bool)},optsV seen es=true->∀e∈es,validEv e=true
 | [],_,_,e,h=>by cases h
 | x::es,seen,hv,e,h=>by
  rw[optsV,ad,ay,ey] at hv
  rcases mem_cons.1 h with rfl | h
  ·simpa using hv.1.2
  ·exact opts_valid hv.2 e h
def opt_valid{r:RepM}(hv:validR r=true){e:EvM}(he:e∈r.opts):validEv e=true:=by
 unfold validR at hv;simp only[ad] at hv;exact opts_valid hv.2.2 e he
def days_ok{l:List RepM}(hv:∀r∈l,validR r=true):DaysOk l:=λr hr e he=>by
 have:=ev_parts (opt_valid (hv r hr) he);exact⟨this.1,this.2.1⟩
def ev_names{e:EvM}(he:validEv e=true):e.part∈namesEv e/\(e.op=2->e.into∈namesEv e):=by
 unfold namesEv;rw[he,ul (by decide)];split
 ·unfold minStr maxStr;cases h1:db e.part e.into
  ·rw[gt,ah,ou];by_cases h2:e.part=e.into
   ·rw[ut h2,ab];simp[h2]
   ·rw[un h2,ah];simp
  ·simp
 ·rename_i h;exact⟨mem_singleton.2 rfl,λk=>t7 k h⟩
def sideN(l:List RepM)(S:Nat->Bool)(name:List Nat):Bool:=(ck l.length).any λi=>S i&&((l[i]?.map λr=>(namesR r).contains name).getD false)
def side_iff{l:List RepM}{S:Nat->Bool}{name:List Nat}:sideN l S name=true↔∃i r,S i=true/\l[i]?=some r/\name∈namesR r:=by
 unfold sideN;rw[any_eq_true];constructor
 ·rintro⟨i,_,h⟩;rw[ad] at h
  cases hr:l[i]? with
  | none=>rw[hr] at h;cases h.2
  | some r=>rw[hr] at h;exact⟨i,r,h.1,hr,contains_iff_mem.1 h.2⟩
 ·rintro⟨i,r,h1,h2,h3⟩;refine⟨i,mem_range.2 (aE h2),?_⟩;rw[h1,h2];exact contains_iff_mem.2 h3
def Shut(l:List RepM)(S:Nat->Bool):Prop:=∀i j p,S i=true->(i,p)∈ment 0 l->(j,p)∈ment 0 l->S j=true
def ment_iff{l:List RepM}{i:Nat}{p:List Nat}:(i,p)∈ment 0 l↔∃r,l[i]?=some r/\p∈namesR r:=by
 rw[mem_ment];exact⟨λ⟨r,_,h⟩=>⟨r,h⟩,λ⟨r,h⟩=>⟨r,eb _,h⟩⟩
def side_ev{l:List RepM}{S:Nat->Bool}(hS:Shut l S){i:Nat}{r:RepM}(hr:l[i]?=some r)(hv:validR r=true){e:EvM}(he:e∈r.opts):sideN l S e.part=S i/\OnSide (sideN l S) e:=by
 have key:∀p,p∈namesR r->sideN l S p=S i:=λp hp=>by
  cases hi:S i
  ·cases h:sideN l S p
   ·rfl
   ·obtain⟨j,q,h1,h2,h3⟩:=side_iff.1 h;rw[hS j i p h1 (ment_iff.2 ⟨q,h2,h3⟩) (ment_iff.2 ⟨r,hr,hp⟩)] at hi;cases hi
  ·exact side_iff.2 ⟨i,r,hi,hr,hp⟩
 obtain⟨n1,n2⟩:=ev_names (opt_valid hv he);have h1:=key _ ((mem_names hv).2 ⟨e,he,n1⟩);exact⟨h1,λk=>by rw[h1];exact key _ ((mem_names hv).2 ⟨e,he,n2 k⟩)⟩
def evI(l:List RepM)(g:Nat->Int)(i:Nat):List EvM:=match l[i]? with
 | some r=>pkE (r,g i)
 | none=>[]
def zip_own(l:List RepM)(g:Nat->Int):∀I:List Nat,(∀i∈I,i<l.length)->(I.filterMap (l[·]?)).zip (I.map g)=I.filterMap λi=>l[i]?.map λr=>(r,g i)
 | [],_=>rfl
 | i::I,h=>by
  have ih:=zip_own l g I λj hj=>h j (af _ hj);obtain⟨r,hr⟩:∃r,l[i]?=some r:=⟨_,ax (h i ac)⟩;rw[bt,bt,hr,aO];simp only[ex];rw[b0,ih]
def evs_own(l:List RepM)(g:Nat->Int)(I:List Nat)(h:∀i∈I,i<l.length):evsN (I.filterMap (l[·]?)) (I.map g)=I.flatMap (evI l g):=by
 unfold evsN;rw[zip_own l g I h];clear h
 induction I with
 | nil=>rfl
 | cons i I ih=>
  rw[bt,be,<-ih];unfold evI
  cases l[i]? with
  | none=>rfl
  | some r=>rfl
def evI_mem{l:List RepM}{g:Nat->Int}{i:Nat}{e:EvM}(h:e∈evI l g i):∃r,l[i]?=some r/\e∈r.opts:=by
 unfold evI at h;split at h
 ·rename_i r hr;exact⟨r,hr,pkE_mem h⟩
 ·cases h
def side_filter{l:List RepM}{S:Nat->Bool}(hS:Shut l S)(hv:∀r∈l,validR r=true)(g:Nat->Int)(T:(List Nat->Bool)->List Nat->Bool)(U:Bool->Bool)(hT:∀A n,T A n=U (A n)):∀I:List Nat,(I.flatMap (evI l g)).filter (λe=>T (sideN l S) e.part)=(I.filter λi=>U (S i)).flatMap (evI l g)
 | []=>rfl
 | i::I=>by
  have ih:=side_filter hS hv g T U hT I
  have hi:∀e∈evI l g i,T (sideN l S) e.part=U (S i):=λe he=>by
   obtain⟨r,hr,h⟩:=evI_mem he;rw[hT,(side_ev hS hr (hv r (aj hr)) h).1]
  rw[be,ca,ih,ap];split
  ·rename_i h;rw[be,List.filter_eq_self.2 λe he=>by rw[hi e he];exact h]
  ·rename_i h;rw[filter_eq_nil_iff.2 λe he=>by rw[hi e he];exact h,dt]
def fn_of:∀(I:List Nat) (ch:List Int),I.Nodup->I.length=ch.length->∃g:Nat->Int,I.map g=ch
 | [],[],_,_=>⟨λ_=>0,rfl⟩
 | [],b::ch,_,h=>by simp at h
 | i::I,[],_,h=>by simp at h
 | i::I,b::ch,hn,h=>by
  rw[f7] at hn;obtain⟨g,hg⟩:=fn_of I ch hn.2 (by simpa using h);refine⟨λj=>if j=i then b else g j,?_⟩;rw[aO,t8 rfl,<-hg]
  congr 1
  exact bd λj hj=>ul λe=>hn.1 (by rw[<-e];exact hj)
def range_all(l:List RepM):(ck l.length).filterMap (l[·]?)=l:=by
 apply fo;intro i
 have h:∀n,n<=l.length->(ck n).filterMap (l[·]?)=l.take n:=λn=>by
  induction n with
  | zero=>intro _;rfl
  | succ n ih=>
   intro hn;rw[f9,List.filterMap_append,ih (by omega),List.take_add_one,bt];cases l[n]?<;>rfl
 rw[h _ (bk _),List.take_length]
def events_evs{c:List KKind}{l:List RepM}{ch:List Int}(h:givenN c l ch 0=true):eventsN l ch=evsN l ch:=by
 obtain⟨_,hl,hg⟩:=given_parts.1 h;unfold eventsN pickedN;rw[t8 hl,t8 (all_eq_true.2 λp hp=>?_)]
 ·unfold evsN;show(l.zip ch).flatMap pick1=_;refine flatMap_cg λp hp=>?_;obtain⟨_,h1,_⟩:=okG_iff.1 (hg p hp);unfold pick1 pkE;rw[ul (by omega)]
 ·obtain⟨_,h1,h2⟩:=okG_iff.1 (hg p hp);unfold ok1;simp only[ad,ay,wd];omega
def evs_len(l:List RepM)(ch:List Int):(evsN l ch).length<=l.length:=by
 unfold evsN
 have:∀L:List (RepM×Int),(L.flatMap pkE).length<=L.length:=λL=>by
  induction L with
  | nil=>exact bk _
  | cons p L ih=>
   rw[be,cp,bb]
   have:(pkE p).length<=1:=by
    unfold pkE;split
    ·exact eb _
    ·cases p.1.opts[p.2.toNat]?<;>simp
   omega
 have:=this (l.zip ch);rw[List.length_zip] at this;omega
def sortEv_len(l:List EvM):(sortEv l).length=l.length:=insF_len _ _
def sortEv_mem{l:List EvM}{e:EvM}(h:e∈sortEv l):e∈l:=(insF_perm (ltEv cmpDay) l).mem_iff.1 h
def valid_nil{c:List KKind}(hc:catV c=true):validF c []=true:=by unfold validF;rw[hc];rfl
def apart_nil{A:List Nat->Bool}:Apart A []:=λp h=>by cases h
def sorted_split{u:Bool}{c:List KKind}{dmg:FormM}{A:List Nat->Bool}{l:List EvM}(hc:catV c=true)(hl:l.length<=20000)(hI:∀e∈l,OnSide A e):
 ((goR u c dmg (sortEv l) []).2=0↔(goR u c dmg (sortEv (l.filter λe=>A e.part)) []).2=0/\(goR u c dmg (sortEv (l.filter λe=>nt A e.part)) []).2=0)/\
 ((goR u c dmg (sortEv l) []).2=0->only A (goR u c dmg (sortEv l) []).1=(goR u c dmg (sortEv (l.filter λe=>A e.part)) []).1):=by
 have:=go_split (u:=u) (dmg:=dmg) (sortEv l) (A:=A) (s:=[]) (λe he=>hI e (sortEv_mem he)) apart_nil (valid_nil hc) (by rw[sortEv_len];simpa using hl);rw[sortEv_filter,sortEv_filter] at this;exact this
def Less(l less:List RepM)(k n:Nat):Prop:=∃r o,l[k]?=some r/\r.opts[n]?=some o/\less=l.set k ⟨[o],false⟩
def Less.get{l less:List RepM}{k n:Nat}(h:Less l less k n):∃r o,l[k]?=some r/\r.opts[n]?=some o/\less[k]?=some ⟨[o],false⟩/\(∀i,i≠k->less[i]?=l[i]?)/\less.length=l.length:=by
 obtain⟨r,o,h1,h2,rfl⟩:=h;exact⟨r,o,h1,h2,eg (aE h1),λi hi=>e6 λe=>hi e.symm,b8⟩
def Less.ment{l less:List RepM}{k n:Nat}(h:Less l less k n)(hv:∀r∈l,validR r=true)(hv2:∀r∈less,validR r=true):∀x∈ment 0 less,x∈ment 0 l:=by
 rintro⟨i,p⟩ hx;obtain⟨r,o,h1,h2,h3,h4,_⟩:=h.get;rw[ment_iff] at hx ⊢;obtain⟨q,hq,hp⟩:=hx;by_cases e:i=k
 ·subst e;rw[h3] at hq;cases hq;obtain⟨e,he,hp⟩:=(mem_names (hv2 _ (aj h3))).1 hp;rw[mem_singleton.1 he] at hp;exact⟨r,h1,(mem_names (hv _ (aj h1))).2 ⟨o,aj h2,hp⟩⟩
 ·rw[h4 i e] at hq;exact⟨q,hq,hp⟩
def Less.sub{l less:List RepM}{k n:Nat}(h:Less l less k n)(hv:∀r∈l,validR r=true)(hv2:∀r∈less,validR r=true){part:List Nat}{i:Nat}(hi:i∈linkOf less part):i∈linkOf l part:=by
 obtain⟨h1,j,h2,h3⟩:=mem_linkOf.1 hi;obtain⟨_,_,_,_,_,_,hl⟩:=h.get;have hm:=h.ment hv hv2;exact mem_linkOf.2 ⟨by rw[<-hl];exact h1,j,hm _ h2,h3.mono hm⟩
def link_shut(l:List RepM)(part:List Nat):Shut l λi=>(linkOf l part).contains i:=by
 intro i j p h1 h2 h3;rw[contains_iff_mem] at h1 ⊢;obtain⟨_,k,k2,k3⟩:=mem_linkOf.1 h1;obtain⟨r,hr,_⟩:=ment_iff.1 h3;exact mem_linkOf.2 ⟨aE hr,k,k2,.step k3 h2 h3⟩
def mix{c:List KKind}{l less:List RepM}{k n:Nat}{part:List Nat}{H:List Int}(L:Less l less k n)(hv:∀r∈l,validR r=true)(hv2:∀r∈less,validR r=true)(hlen:l.length<20000)(h0:isN c less H=true):
 ∃back:List Int->List Int,∀ch2,isN c (ownN less part) ch2=true->∃ch,isN c (ownN l part) ch=true/\back ch=ch2/\∀(dmg:FormM) (ws:List Wy) (co:Co),co.part=part->
  (ownN less part≠[]->billM ws (runN c dmg (eventsN (ownN l part) ch) co.day).1 co=billM ws (runN c dmg (eventsN (ownN less part) ch2) co.day).1 co)/\(ownN less part=[]->billM ws (runN c dmg (eventsN (ownN l part) ch) co.day).1 co=[(co.owner,co.am)]):=by
 refine⟨λch=>(linkOf less part).map λi=>if i=k then 0 else (((linkOf l part).zip ch).lookup i).getD 0,λch2 h2=>?_⟩;obtain⟨r,o,l1,l2,l3,l4,l5⟩:=L.get;have hsub:=λi=>L.sub hv hv2 (part:=part) (i:=i);have dl:=days_ok hv;have d2:=days_ok hv2;have do1:DaysOk (ownN l part):=λr hr=>dl r (own_mem hr);have do2:DaysOk (ownN less part):=λr hr=>d2 r (own_mem hr);have dmg0:FormM:=.mk 0 0 [];obtain⟨g0,f0⟩:=(is_iff (dmg:=dmg0) d2).1 h0;obtain⟨g2,f2⟩:=(is_iff (dmg:=dmg0) do2).1 h2;obtain⟨hc,gl0,ga0⟩:=given_parts.1 g0;obtain⟨_,gl2,ga2⟩:=given_parts.1 g2;have i1:=(linkOf_ok l part).2;have i2:=(linkOf_ok less part).2;have s1:=linkOf_sorted l part;have s2:=linkOf_sorted less part;have nd1:(linkOf l part).Nodup:=s1.imp λh=>g7 h;have nd2:(linkOf less part).Nodup:=s2.imp λh=>g7 h;unfold ownN at gl2 ga2 f2 ⊢
 have hfl:∀(q:List RepM) (I:List Nat),(∀i∈I,i<q.length)->(I.filterMap (q[·]?)).length=I.length:=λq I=>by
  induction I with
  | nil=>intro _;rfl
  | cons i I ih=>
   intro h;rw[bt,ax (h i ac)];simp only[bb,ih λj hj=>h j (af _ hj)]
 obtain⟨G2,hG2⟩:=fn_of (linkOf less part) ch2 nd2 (by rw[<-hfl less _ i2];exact gl2);obtain⟨G0,hG0⟩:=fn_of (ck less.length) H List.nodup_range (by rw[List.length_range];exact gl0);have shut2:=link_shut less part;have shut1:=link_shut l part;generalize hI:linkOf l part=I at *;generalize hJ:linkOf less part=J at *
 obtain⟨G,hG⟩:∃G:Nat->Int,∀i,G i=if J.contains i=true then G2 i else G0 i:=⟨_,λ_=>rfl⟩
 have hz0:∀i r,less[i]?=some r->okG 0 (r,G0 i)=true:=λi r hr=>by
  refine ga0 _ ?_;have hz:=zip_own less G0 _ λi hi=>mem_range.1 hi;rw[range_all,hG0] at hz;rw[hz];exact List.mem_filterMap.2 ⟨i,mem_range.2 (aE hr),by rw[hr];rfl⟩
 have hzG:∀i r,less[i]?=some r->okG 0 (r,G i)=true:=λi r hr=>by
  rw[hG];split
  ·rename_i h;refine ga2 _ ?_;rw[<-hG2,zip_own less G2 J i2];exact List.mem_filterMap.2 ⟨i,contains_iff_mem.1 h,by rw[hr];rfl⟩
  ·exact hz0 i r hr
 have hk0:G k=0:=by
  obtain⟨_,o1,o2⟩:=okG_iff.1 (hzG k _ l3);unfold choicesN at o2;rw[hv2 _ (aj l3)] at o2;simp at o1 o2;omega
 have hev:∀i,evI l (λi=>if i=k then (n:Int) else G i) i=evI less G i:=λi=>by
  unfold evI;by_cases e:i=k
  ·rw[e,l1,l3];show pkE (r,if k=k then (n:Int) else G k)=pkE (⟨[o],false⟩,G k);rw[t8 rfl,hk0];unfold pkE;rw[ul (by omega),ul (by omega),fd,l2];rfl
  ·rw[l4 i e];simp only[ul e]
 have hE:evsN (I.filterMap (l[·]?)) (I.map λi=>if i=k then (n:Int) else G i)=I.flatMap (evI less G):=by
  rw[evs_own l _ I i1];exact flatMap_cg λi _=>hev i
 have hJI:∀i∈J,i∈I:=hsub
 have hE2:J.flatMap (evI less G)=evsN (J.filterMap (less[·]?)) ch2:=by
  rw[<-hG2,evs_own less _ J i2];refine flatMap_cg λi hi=>?_;unfold evI;rw[hG,t8 (contains_iff_mem.2 hi)]
 have hIJ:(I.filter λi=>J.contains i)=J:=by
  refine Perm.eq_of_pairwise (le:=(·<·)) (λa b _ _ h1 h2=>by omega) (s1.filter _) s2 ((c0 (nd1.filter _) nd2).2 λi=>?_);rw[mem_filter,contains_iff_mem];exact⟨λh=>h.2,λh=>⟨hJI i h,h⟩⟩
 have hIl:∀i∈I,i<less.length:=λi hi=>by rw[l5];exact i1 i hi
 have hbound:(I.flatMap (evI less G)).length<=20000:=by
  rw[<-hE];have h1:=evs_len (I.filterMap (l[·]?)) (I.map λi=>if i=k then (n:Int) else G i)
  have h2:(I.filterMap (l[·]?)).length<=l.length:=by
   have:=own_len l part;unfold ownN at this;rw[hI] at this;exact this
  omega
 have hside:∀{S:Nat->Bool},Shut less S->∀(g:Nat->Int) (K:List Nat),∀e∈K.flatMap (evI less g),OnSide (sideN less S) e:=λ{S} hS g K e he=>by
  obtain⟨i,_,he⟩:=mem_flatMap.1 he;obtain⟨q,hq,he⟩:=evI_mem he;exact(side_ev hS hq (hv2 _ (aj hq)) he).2
 have shutR:Shut less λi=>I.contains i&&!J.contains i:=λi j p h1 h2 h3=>by
  simp only[ad,ay] at h1 ⊢;have hm:=L.ment hv hv2;refine⟨shut1 i j p h1.1 (hm _ h2) (hm _ h3),?_⟩;cases hj:J.contains j
  ·rfl
  ·have h9:J.contains i=true:=shut2 j i p hj h3 h2;rw[h9] at h1;cases h1.2
 have hrest:(goR false c dmg0 (sortEv ((I.filter λi=>!J.contains i).flatMap (evI less G))) []).2=0:=by
  have hf:=f0;rw[<-hG0] at hf
  have hfe:evsN less ((ck less.length).map G0)=(ck less.length).flatMap (evI less G0):=by
   have:=evs_own less G0 _ λi hi=>mem_range.1 hi;rw[range_all] at this;exact this
  rw[hfe] at hf
  have hb0:((ck less.length).flatMap (evI less G0)).length<=20000:=by
   rw[<-hfe];have:=evs_len less ((ck less.length).map G0);omega
  have hs:=((sorted_split (u:=false) (dmg:=dmg0) hc hb0 (hside shutR G0 _)).1.1 hf).1;rw[side_filter shutR hv2 G0 (λA n=>A n) (λb=>b) (λ_ _=>rfl)] at hs
  have e1:((ck less.length).filter λi=>I.contains i&&!J.contains i)=I.filter λi=>!J.contains i:=by
   refine Perm.eq_of_pairwise (le:=(·<·)) (λa b _ _ h1 h2=>by omega) (List.pairwise_lt_range.filter _) (s1.filter _) ((c0 (List.nodup_range.filter _) (nd1.filter _)).2 λi=>?_);rw[mem_filter,mem_filter,mem_range,ad,contains_iff_mem];exact⟨λh=>h.2,λh=>⟨hIl i h.1,h⟩⟩
  rw[e1] at hs;rw[<-hs]
  congr 3
  refine flatMap_cg λi hi=>?_;unfold evI;rw[hG,ul (by simpa using(mem_filter.1 hi).2)]
 have hA:=side_filter shut2 hv2 G (λA n=>A n) (λb=>b) (λ_ _=>rfl) I;have hB:=side_filter shut2 hv2 G nt (λb=>!b) (λ_ _=>rfl) I;rw[hIJ,hE2] at hA;have hOn:=hside shut2 G I
 have hok:(goR false c dmg0 (sortEv (I.flatMap (evI less G))) []).2=0:=by
  refine(sorted_split hc hbound hOn).1.2 ⟨?_,?_⟩
  ·rw[hA];exact f2
  ·rw[hB];exact hrest
 have hgiv:givenN c (I.filterMap (l[·]?)) (I.map λi=>if i=k then (n:Int) else G i) 0=true:=by
  refine given_parts.2 ⟨hc,by rw[hfl l I i1,bw],λp hp=>?_⟩;rw[zip_own l _ I i1] at hp;obtain⟨i,hi,h⟩:=List.mem_filterMap.1 hp
  cases hr:l[i]? with
  | none=>rw[hr] at h;cases h
  | some q=>
   rw[hr] at h;cases h;by_cases e:i=k
   ·subst e;rw[l1] at hr;cases hr;rw[t8 rfl];have hvr:=hv _ (aj l1);have hn:=aE l2;refine okG_iff.2 ?_;unfold choicesN;rw[hvr];simp only[Bool.true_eq_false,if_false];split<;>omega
   ·rw[ul e];exact hzG i q (by rw[l4 i e];exact hr)
 refine⟨I.map λi=>if i=k then (n:Int) else G i,(is_iff (dmg:=dmg0) (by unfold ownN at do1;rw[hI] at do1;exact do1)).2 ⟨hgiv,by rw[hE];exact hok⟩,?_,λdmg ws co hco=>?_⟩
 ·rw[<-hG2];refine bd λi hi=>?_
  have hGi:G i=G2 i:=by rw[hG,t8 (contains_iff_mem.2 hi)]
  have hlk:∀(f:Nat->Int) (K:List Nat),i∈K->(K.zip (K.map f)).lookup i=some (f i):=λf K=>by
   induction K with
   | nil=>intro h;cases h
   | cons j K ih=>
    intro h;rw[aO,b0,List.lookup_cons];by_cases e:i=j
    ·subst e;rw[beq_self_eq_true]
    ·rw[beq_eq_false_iff_ne.2 e];exact ih ((mem_cons.1 h).resolve_left e)
  by_cases e:i=k
  ·rw[t8 e,<-hGi,e,hk0]
  ·rw[ul e,hlk _ I (hJI i hi),ul e];exact hGi
 have hg2:givenN c (J.filterMap (less[·]?)) ch2 0=true:=by
  have:=g2;unfold ownN at this;rw[hJ] at this;exact this
 rw[events_evs hgiv,events_evs hg2,hE];by_cases hcv:(catV c&&validForm dmg)=true;rotate_left
 ·unfold runN;rw[ul hcv,ul hcv];exact⟨λ_=>rfl,λ_=>rfl⟩
 unfold runN;rw[t8 hcv,t8 hcv,run_go,run_go];unfold keptEv
 have hkept:∀a b:EvM,a.day<=b.day->(!lateEv co.day b)=true->(!lateEv co.day a)=true:=λa b h1 h2=>by
  unfold lateEv at h2 ⊢;simp only[ay,wd] at h2 ⊢;omega
 have hlf:((I.flatMap (evI less G)).filter λe=>!lateEv co.day e).length<=20000:=Nat.le_trans (cc _ _) hbound
 have hrun:(goR true c dmg (sortEv ((I.flatMap (evI less G)).filter λe=>!lateEv co.day e)) []).2=0:=by
  rw[<-go_bare _ [] (valid_nil hc) (by rw[sortEv_len];simpa using hlf)];have h1:=go_less hkept hok
  have nodmg:∀(es:List EvM) (s:List PartM),goR false c dmg es s=goR false c dmg0 es s:=λes=>by
   induction es with
   | nil=>intro s;rfl
   | cons e es ih=>
    intro s;rw[goR,goR];split
    ·rw[ul λk:false=true/\_=>bh k.1,ul λk:false=true/\_=>bh k.1];exact ih _
    ·rfl
  rw[d9,nodmg];exact h1
 have hone:=(sorted_split (u:=true) (dmg:=dmg) (A:=sideN less λi=>J.contains i) hc hlf λe he=>hOn e (mem_filter.1 he).1).2 hrun;rw[bi] at hone
 have hsw:((I.flatMap (evI less G)).filter λe=>(sideN less λi=>J.contains i) e.part&&!lateEv co.day e)=(evsN (J.filterMap (less[·]?)) ch2).filter λe=>!lateEv co.day e:=by
  rw[<-hA,bi];exact b7 λe _=>fm _ _
 rw[hsw] at hone
 have hpart:J≠[]->sideN less (λi=>J.contains i) part=true:=λhne=>by
  obtain⟨i,hi⟩:∃i,i∈J:=by
   cases J with
   | nil=>exact t7 rfl hne
   | cons i J=>exact⟨i,ac⟩
  rw[<-hJ] at hi;obtain⟨_,j,j1,_⟩:=mem_linkOf.1 hi;obtain⟨q,q1,q2⟩:=ment_iff.1 j1;refine side_iff.2 ⟨j,q,contains_iff_mem.2 ?_,q1,q2⟩;rw[<-hJ];exact mem_linkOf.2 ⟨aE q1,j,j1,.refl _⟩
 refine⟨λhne=>?_,λhnil=>?_⟩
 ·unfold billM;rw[<-hone,find_only (by rw[hco];exact hpart λe=>hne (by rw[e];rfl))]
 ·have hJ0:J=[]:=by
   cases J with
   | nil=>rfl
   | cons i J=>
    have:=hfl less (i::J) i2;rw[hnil] at this;simp at this
  have hno:∀i r,less[i]?=some r->¬part∈namesR r:=λi r hr hp=>by
   have:i∈J:=by
    rw[<-hJ];exact mem_linkOf.2 ⟨aE hr,i,ment_iff.2 ⟨r,hr,hp⟩,.refl _⟩
   rw[hJ0] at this;cases this
  have hev0:∀e∈I.flatMap (evI less G),e.part≠part/\(e.op=2->e.into≠part):=λe he=>by
   obtain⟨i,_,he⟩:=mem_flatMap.1 he;obtain⟨q,hq,he⟩:=evI_mem he;have hvq:=hv2 _ (aj hq);obtain⟨n1,n2⟩:=ev_names (opt_valid hvq he);exact⟨λk=>hno i q hq (by rw[<-k];exact(mem_names hvq).2 ⟨e,he,n1⟩),λh k=>hno i q hq (by rw[<-k];exact(mem_names hvq).2 ⟨e,he,n2 h⟩)⟩
  have h9:=(sorted_split (u:=true) (dmg:=dmg) (A:=λnm=>decide (nm=part)) hc hlf λe he k=>by
   obtain⟨n1,n2⟩:=hev0 e (mem_filter.1 he).1
   simp only[n1,n2 k,decide_false]).2 hrun
  have hz:((I.flatMap (evI less G)).filter λe=>!lateEv co.day e).filter (λe=>decide (e.part=part))=[]:=filter_eq_nil_iff.2 λe he=>by simpa using(hev0 e (mem_filter.1 he).1).1
  rw[hz] at h9;have h8:=find_only (A:=λnm=>decide (nm=part)) (name:=part) (by simp) (goR true c dmg (sortEv ((I.flatMap (evI less G)).filter λe=>!lateEv co.day e)) []).1;rw[h9] at h8;unfold billM;rw[hco,<-h8];rfl
def min_le:∀(xs:List Int) (x:Int),xs.foldl minI x<=x/\∀y∈xs,xs.foldl minI x<=y
 | [],_=>⟨ce _,λy h=>by cases h⟩
 | z::xs,x=>by
  obtain⟨h1,h2⟩:=min_le xs (minI x z);have hm:=minI_le x z;rw[bv];refine⟨cb h1 hm.1,λy hy=>?_⟩
  rcases mem_cons.1 hy with rfl | hy
  ·exact cb h1 hm.2
  ·exact h2 y hy
def min_mem:∀(xs:List Int) (x:Int),xs.foldl minI x=x\/xs.foldl minI x∈xs
 | [],_=>.inl rfl
 | z::xs,x=>by
  rw[bv]
  rcases min_mem xs (minI x z) with h | h
  ·rw[h];unfold minI;split
   ·exact .inl rfl
   ·exact .inr ac
  ·exact .inr (af _ h)
def leastK_le{p:List Nat}{bs:List Bill}{b:Bill}(h:b∈bs):leastK p bs<=getM 0 p b:=by
 cases bs with
 | nil=>cases h
 | cons a bs=>
  obtain⟨h1,h2⟩:=min_le (bs.map (getM 0 p)) (getM 0 p a)
  rcases mem_cons.1 h with rfl | h
  ·exact h1
  ·exact h2 _ (ba h)
def leastK_mem{p:List Nat}{bs:List Bill}(h:bs≠[]):∃b∈bs,leastK p bs=getM 0 p b:=by
 cases bs with
 | nil=>exact t7 rfl h
 | cons a bs=>
  rcases min_mem (bs.map (getM 0 p)) (getM 0 p a) with h | h
  ·exact⟨a,ac,h⟩
  ·obtain⟨b,h1,h2⟩:=mem_map.1 h;exact⟨b,af _ h1,h2.symm⟩
def ofSh_cons(s:Sh)(B:List Sh)(p:List Nat):ofSh (s::B) p=if s.pt=p then s.am else ofSh B p:=by
 unfold ofSh;rw[ci];by_cases h:s.pt=p
 ·rw[t8 h,ut h]
 ·rw[ul h,un h]
def ofSh_nn{p:List Nat}:∀{B:List Sh},(∀s∈B,0<=s.am)->0<=ofSh B p
 | [],_=>ce _
 | s::B,h=>by
  rw[ofSh_cons];split
  ·exact h s ac
  ·exact ofSh_nn λx hx=>h x (af _ hx)
def pick_sum{f:List Nat->Int}{q:List Nat}{a:Int}(ha:0<=a)(hf:∀p,0<=f p):∀P:List (List Nat),P.Nodup->(P.map λp=>if q=p then a else f p).sum<=a+(P.map f).sum
 | [],_=>by simpa using ha
 | p::P,h=>by
  rw[f7] at h;have ih:=pick_sum (q:=q) ha hf P h.2;have:=hf p;rw[aO,aO,dv,dv];by_cases e:q=p
  ·rw[t8 e,bd (g:=f) λx hx=>ul λk=>h.1 (by rw[<-e,k];exact hx)];omega
  ·rw[ul e];omega
def of_sum:∀(B:List Sh),(∀s∈B,0<=s.am)->∀P:List (List Nat),P.Nodup->(P.map (ofSh B)).sum<=(B.map Sh.am).sum
 | [],_,P,_=>by
  have:∀P:List (List Nat),(P.map (ofSh [])).sum=0:=λP=>by
   induction P with
   | nil=>rfl
   | cons p P ih=>rw[aO,dv,ih];rfl
  rw[this];exact ce _
 | s::B,h,P,hP=>by
  have hB:∀x∈B,0<=x.am:=λx hx=>h x (af _ hx);have ih:=of_sum B hB P hP;rw[show ofSh (s::B)=λp=>if s.pt=p then s.am else ofSh B p from funext (ofSh_cons s B),aO,dv];have:=pick_sum (f:=ofSh B) (q:=s.pt) (h s ac) (λp=>ofSh_nn (p:=p) hB) P hP;omega
def bad_parts{c:List KKind}{dmg:FormM}{ws:List Wy}{l:List RepM}{co:Co}(h:¬badSure c dmg ws l co=true):rightB ws co=true/\∀r∈l,validR r=true:=by
 unfold badSure at h;simp only[em,ey,d7] at h;exact⟨h.2.1,λr hr=>by simpa using List.any_eq_false.1 h.2.2 r hr⟩
def sureG_ok{c:List KKind}{dmg:FormM}{ws:List Wy}{own:List RepM}{co:Co}(h:(sureG c dmg ws own co).2.2=0):own≠[]/\(allN c own 4096).2=0/\(allN c own 4096).1.length≠4096/\(sureG c dmg ws own co).1=listN (leastN (billsN c dmg ws own co (allN c own 4096).1)):=by
 unfold sureG at h ⊢;split at h
 ·cases h
 rename_i h1;rw[ul h1];split at h
 ·rename_i h2;rw[t8 h2];split at h
  ·cases h
  rename_i h3;rw[ul h3];exact⟨h1,h2,h3,rfl⟩
 ·rename_i h2;exact t7 h h2
def sure_evi{c:List KKind}{dmg:FormM}{ws:List Wy}{l less:List RepM}{k n:Nat}{co:Co}(L:Less l less k n)(hlen:l.length<20000)(hf:(firstN c less).2=0)(h1:(sureN c dmg ws l co).2.2=0)(h2:(sureN c dmg ws less co).2.2=0):
 (∀p,ofSh (sureN c dmg ws l co).1 p<=ofSh (sureN c dmg ws less co).1 p)/\(∀s∈(sureN c dmg ws l co).1,s.am=ofSh (sureN c dmg ws l co).1 s.pt)/\(sureN c dmg ws less co).2.1<=(sureN c dmg ws l co).2.1:=by
 have k1:=sure_ok c dmg ws l co;have k2:=sure_ok c dmg ws less co
 have key:∀p,ofSh (sureN c dmg ws l co).1 p<=ofSh (sureN c dmg ws less co).1 p:=λp=>by
  clear k1 k2;unfold sureN at h1 h2 ⊢;split at h1
  ·cases h1
  rename_i b1;rw[ul b1];split at h2
  ·cases h2
  rename_i b2;rw[ul b2];obtain⟨hr,hv⟩:=bad_parts b1;obtain⟨_,hv2⟩:=bad_parts b2;obtain⟨_,a2,a3,a4⟩:=sureG_ok h1;obtain⟨e1,e2,_,e4⟩:=sureG_ok h2
  obtain⟨H,hH⟩:∃H,isN c less H=true:=by
   unfold firstN at hf;split at hf
   ·rename_i h0;have hne:=all_ok h0
    cases ha:(allN c less 1).1 with
    | nil=>exact t7 ha hne
    | cons x _=>exact⟨x,all_is (most:=1) (by rw[ha];exact ac)⟩
   ·rename_i h0;exact t7 hf h0
  have d1:=days_ok hv;have n1:=all_ok a2;have n2:=all_ok e2;have m1:billsN c dmg ws (ownN l co.part) co (allN c (ownN l co.part) 4096).1≠[]:=λk=>n1 (List.map_eq_nil_iff.1 k);have m2:billsN c dmg ws (ownN less co.part) co (allN c (ownN less co.part) 4096).1≠[]:=λk=>n2 (List.map_eq_nil_iff.1 k);rw[a4,e4,sure_least m1 (bills_ok hr),sure_least m2 (bills_ok hr)];obtain⟨b,hb,hbe⟩:=leastK_mem (p:=p) m2;obtain⟨ch2,hc2,rfl⟩:=mem_map.1 hb;obtain⟨_,hm⟩:=mix (part:=co.part) L hv hv2 hlen hH;obtain⟨ch,m1,_,m2⟩:=hm ch2 (all_is hc2);rw[hbe,<-(m2 dmg ws co rfl).1 e1];exact leastK_le (mem_map.2 ⟨ch,all_has (λr hr=>d1 r (own_mem hr)) a2 (λk=>a3 (by omega)) m1,rfl⟩)
 have self:∀s∈(sureN c dmg ws l co).1,s.am=ofSh (sureN c dmg ws l co).1 s.pt:=by
  have:∀A:List Sh,A.Pairwise (λa b=>db a.pt b.pt=true)->∀s∈A,s.am=ofSh A s.pt:=λA=>by
   induction A with
   | nil=>intro _ s h;cases h
   | cons a A ih=>
    intro h s hs;rw[bW] at h;rw[ofSh_cons]
    rcases mem_cons.1 hs with rfl | hs
    ·rw[t8 rfl]
    ·have:=h.1 s hs;rw[ul λe=>by rw[e,cr] at this;cases this];exact ih h.2 s hs
  exact this _ k1.lts
 refine⟨key,self,?_⟩;rw[(k1.opn h1).2,(k2.opn h2).2];have nd:((sureN c dmg ws l co).1.map Sh.pt).Nodup:=List.pairwise_map.2 (k1.lts.imp λh e=>by rw[e,cr] at h;cases h);have s1:=of_sum (sureN c dmg ws less co).1 (λs hs=>Int.le_of_lt (k2.am s hs).1) _ nd
 have s2:((sureN c dmg ws l co).1.map Sh.am).sum<=(((sureN c dmg ws l co).1.map Sh.pt).map (ofSh (sureN c dmg ws less co).1)).sum:=by
  have:∀A:List Sh,(∀s∈A,s.am<=ofSh (sureN c dmg ws less co).1 s.pt)->(A.map Sh.am).sum<=((A.map Sh.pt).map (ofSh (sureN c dmg ws less co).1)).sum:=λA=>by
   induction A with
   | nil=>intro _;exact ce _
   | cons a A ih=>
    intro h;have h1:=h a ac;have h2:=ih λs hs=>h s (af _ hs);simp only[aO,dv] at h2 ⊢;omega
  exact this _ λs hs=>by rw[self s hs];exact key s.pt
 omega
def wk_own{α:Type}{enc:α->List SV}{e o n:Nat}{c:Option Nat}(he:∀x,(enc x).length=e)(hg:∀x,bm (enc x)=true){S:List SO}{q:List α}{cs:List SV}(hS:S[o]?=some (.cells cs))(hcs:cs=q.flatMap enc)(hn:q.length=n):Wk S (.buf o n e c) (slS e q enc):=by
 subst hn hcs;rw[je];exact .buf hS (by rw[flat_all he];exact aM.refl (ar hg q)) (by rw[flat_len' he];exact bk _)
structure Two {α:Type} (enc:α->List SV) (e:Nat) (a:List α):Prop where
 o:(a.flatMap enc).all cH=true
 k:∀o:Nat,(a.flatMap enc).map (aH o)=a.flatMap enc
 n:(a.flatMap enc).length=a.length*e
 t:(a.flatMap enc).take (a.length*e)=a.flatMap enc
def two_ok{α:Type}{enc:α->List SV}{e:Nat}(he:∀x,(enc x).length=e)(hg:∀x,bm (enc x)=true)(ho:∀l:List α,(l.flatMap enc).all cH=true)(a:List α):Two enc e a:=
 ⟨ho a,λo=>kill_cells hg o a,flat_len' he a,el (by rw[flat_len' he];exact bk _)⟩
def conv_b8{n:Nat}(h:n<256):fO prog 5 3 (.int .u8 (n:Int))=some (.int .i64 (n:Int)):=by
 have h1:prog.underlying 3=some (.int .i64):=by kernel_rfl
 have h2:prog.underlying 5=some (.int .u8):=by kernel_rfl
 unfold fO;rw[h1,h2];simp only;unfold bR
 rw[show(iJ (xe .i64) (n:Int)&&iJ (n:Int) (xd .i64))=true by
  simp only[ad,dj,wp,xe,xd]
  omega]
 rfl
def rem_nat{P:Program}{t:TypeId}{a b:Nat}(h:0<b):bz P .rem t (.int .i64 (a:Int)) (.int .i64 (b:Int))=some (.int .i64 ((a%b:Nat):Int)):=by
 rw[bin_rem (by omega)];rfl
def bnds_one{n k:Nat}{p q:IntKind}(h:k<n):br n none (some (.int p (k:Int))) (some (.int q ((k:Int)+1))) none=some (k,k+1,none):=by
 unfold br gT fitsA;rw[show((k:Int)+1)=((k+1:Nat):Int) by omega];simp only[fR,d8,cP (show k+1<=n by omega),cP (show k<=k+1 by omega),Bool.true_or,ab]
def repL_ones(l:List RepM):(l.flatMap encRep).all cH=true:=by
 rw[List.all_flatMap];exact all_eq_true.2 λx _=>rfl
def rep_gnd(x:RepM):bm (encRep x)=true:=rfl
abbrev wE1(c:List KKind)(dmg:FormM)(ws:List Wy)(l:List RepM)(co:Co)(one two:Nat):Fm:=[(1,slS 5 ws encWy),(2,slS 2 l encRep),(3,.a (.int .u8 (one:Int))),(4,.a (.int .u8 (two:Int))),(6,.ip (slS 3 c encKind::encForm dmg)),(11,.ip [ae co.part,ae co.owner,aa co.day,aa co.am])]
abbrev wE2(c:List KKind)(dmg:FormM)(ws:List Wy)(l less:List RepM)(co:Co):Fm:=[(1,slS 5 ws encWy),(2,slS 2 l encRep),(6,.ip (slS 3 c encKind::encForm dmg)),(11,.ip [ae co.part,ae co.owner,aa co.day,aa co.am]),(13,ao true),(16,slS 2 less encRep)]
set_option maxHeartbeats 16000000 in
def qF(c:List KKind)(dmg:FormM)(ws:List Wy)(l:List RepM)(co:Co)(one two:Nat)(ho1:one<256)(ht1:two<256)(ha:ArgsC c dmg ws l co):
 PC prog 3 [.ag (slS 3 c encKind::encForm dmg),slS 5 ws encWy,slS 2 l encRep,.a (.int .u8 (one:Int)),.a (.int .u8 (two:Int)),.ag (encCo co)] (·=ao true):=by
 have hfl:(encForm dmg).length=3:=encForm_len dmg;have hft:(encForm dmg).take 3=encForm dmg:=el (by rw[hfl];exact bk _);have hfk:=λo:Nat=>aV (o:=o) (encForm_gnd dmg);have hfn:=λo:Nat=>cu (o:=o) (encForm_gnd dmg);refine pB 138 func3 ?_;rw[encCo_eq];refine(aq (n2 hfk hfn)) ?_;refine ak.fg (Fg.freeze (f':=[(1,slS 5 ws encWy),(2,slS 2 l encRep),(3,.a (.int .u8 (one:Int))),(4,.a (.int .u8 (two:Int))),(6,.ip (slS 3 c encKind::encForm dmg)),(11,.ptr 1 0)]) 0 rfl (λh=>by cases h) ⟨.inl rfl,.inl rfl,.inl rfl,.inl rfl,.inr (.ptr rfl (aM.refl (encForm_gnd dmg)) (eb _)),.inl rfl,trivial⟩) ?_;refine ak.fg (Fg.freeze (f':=wE1 c dmg ws l co one two) 1 rfl (λh=>by cases h) (jM @slS.eq_1)) ?_;refine ak.fg (st':=⟨wE1 c dmg ws l co one two,138,[],[]⟩) zH ?_
 (try change ak _ _ _ _ _)
 refine(zC)<|(zK yg)<|(zR)<|(e8 (n2 hfl hft))<|(zK (A8 c dmg ws l co ha.form ha.wl ha.wn ha.cn ha.ll ha.lo ha.lb) (hwk:=(.cons (.ag (aM.refl (encForm_gnd dmg))) (aM.refl rfl)))) ?_
 cases hfw:Proofs.fewC c dmg ws l co
 ·exact(zR)<|(bq)<|zo [.tmp 12]
 obtain⟨hcat,hform,hlw6,hwf,hcf,hl12,hrep,hop⟩:=fewC_ok hfw ha;clear ha hfw;cases hl0:decide ((l.length:Int)=0);rotate_left
 ·exact(bE hl0)<|(bq)<|zo [.tmp 12]
 have hlp:0<l.length:=by have:=wt hl0;omega
 refine(bE hl0)<|(zN) ?_
 have hcv1:=conv_b8 ho1;have hcv2:=conv_b8 ht1;have hrm1:=rem_nat (P:=prog) (t:=3) (a:=one) hlp;have hkl:=Nat.mod_lt one hlp;refine(aq (n2 hcv1 hrm1)) ?_;generalize one%l.length=k at hkl;obtain⟨r,hr⟩:∃r,l[k]?=some r:=⟨_,ax hkl⟩;have hro:=hop r (aj hr);refine(aq (n3 hkl (au (e:=2) (enc:=encRep) (λ_=>rfl) hr) @encRep.eq_1)) ?_;cases hr0:decide ((r.opts.length:Int)=0);rotate_left
 ·exact(bq)<|zo [.tmp 12]
 have hrp:0<r.opts.length:=by have:=wt hr0;omega
 refine(zN) ?_;have hrm2:=rem_nat (P:=prog) (t:=3) (a:=two) hrp;have hnl:=Nat.mod_lt two hrp;refine(aq (n5 hkl (au (e:=2) (enc:=encRep) (λ_=>rfl) hr) @encRep.eq_1 hcv2 hrm2)) ?_;generalize two%r.opts.length=n at hnl;obtain⟨o,hn⟩:∃o,r.opts[n]?=some o:=⟨_,ax hnl⟩;obtain⟨less,hle⟩:∃less,less=l.set k ⟨[o],false⟩:=⟨_,rfl⟩;have hL:Less l less k n:=⟨r,o,hr,hn,hle⟩
 have hll:less.length=l.length:=by rw[hle,b8]
 have hmem:∀x∈less,x∈l\/x=⟨[o],false⟩:=λx hx=>by rw[hle] at hx;exact List.mem_or_eq_of_mem_set hx
 have hrep2:∀x∈less,RepOk x:=λx hx=>by
  rcases hmem x hx with h | rfl
  ·exact hrep x h
  ·exact⟨by simp,λe he=>by rw[mem_singleton.1 he];exact(hrep r (aj hr)).ev o (aj hn)⟩
 have hop2:∀x∈less,x.opts.length<=6:=λx hx=>by
  rcases hmem x hx with h | rfl
  ·exact hop x h
  ·simp
 have a1:=two_ok (enc:=encRep) (e:=2) (λ_=>rfl) rep_gnd repL_ones l;refine(aq (n8 (show l.length<=1000000 by omega) @bk (Nat.ne_of_gt hlp) hlp @a1.o @a1.k @a1.n @a1.t)) ?_;refine ak.fg (st':=⟨[(1,slS 5 ws encWy),(2,slS 2 l encRep),(6,.ip (slS 3 c encKind::encForm dmg)),(11,.ip [ae co.part,ae co.owner,aa co.day,aa co.am]),(13,ao true),(14,aa k),(15,aa n),(16,.buf 1 l.length 2 none)],138,[.gone,.cells (l.flatMap encRep)],[]⟩) zH ?_
 (try change ak _ _ _ _ _)
 have hadd:=iP (P:=prog) (t:=3) (a:=(n:Int)) (b:=1) (by omega);refine(aq (n7 hkl (au (e:=2) (enc:=encRep) (λ_=>rfl) hr) @encRep.eq_1 hadd (bnds_one (p:=.i64) (q:=.i64) hnl) @a1.n (show k*2+2<=l.length*2 by omega))) ?_
 have hsl:SV.sl (n+1-n) 14 (((r.opts.flatMap encEv).drop (n*14)).take ((n+1-n)*14))=slS 14 [o] encEv:=by
  rw[Nat.add_sub_cancel_left,Nat.one_mul,au (e:=14) (enc:=encEv) (λ_=>rfl) hn];rfl
 rw[hsl];have hcs:=flat_sets (e:=2) (enc:=encRep) (λ_=>rfl) (⟨[o],false⟩:RepM) hkl;rw[<-hle] at hcs;refine ak.fg (Fg.freeze (f':=wE2 c dmg ws l less co) 1 rfl (λh=>by cases h) ⟨.inl rfl,.inl rfl,.inl rfl,.inl rfl,.inl rfl,.inr (wk_own (enc:=encRep) (e:=2) (λ_=>rfl) rep_gnd rfl hcs hll),trivial⟩) ?_;refine ak.fg (st':=⟨wE2 c dmg ws l less co,138,[],[]⟩) zH ?_
 (try change ak _ _ _ _ _)
 have hfi:=th c less hcat hrep2 (by omega) (λh=>by rw[h] at hll;simp at hll;omega);have hsA:=kQ c dmg ws l co hcat hform hwf hcf (by omega) hrep (λr hr=>by have:=hop r hr;omega) (by omega);have hsB:=kQ c dmg ws less co hcat hform hwf hcf (by omega) hrep2 (λr hr=>by have:=hop2 r hr;omega) (by omega);have kA:=sure_ok c dmg ws l co;have kB:=sure_ok c dmg ws less co;have hlaw:=sure_evi (c:=c) (dmg:=dmg) (ws:=ws) (co:=co) hL (by omega);unfold sureS at hsA hsB;generalize sureN c dmg ws l co=rA at hsA kA hlaw;generalize sureN c dmg ws less co=rB at hsB kB hlaw;generalize firstN c less=rF at hfi hlaw;obtain⟨A,oA,eA⟩:=rA;obtain⟨B,oB,eB⟩:=rB;obtain⟨F,eF⟩:=rF;simp only at hsA hsB hfi hlaw
 have hlA:A.length<=1000000:=by have:=kA.len;simp only at this;omega
 have hlB:B.length<=1000000:=by have:=kB.len;simp only at this;omega
 refine(zC)<|(zK hfi (hfl:=.inr (aM.refl rfl)))<|(zR)<|(e8 (n2 hfl hft))<|(zK hsA (hwk:=(.cons (.ag (aM.refl (encForm_gnd dmg))) (aM.refl rfl))) (hfl:=.inr (.cons (.ag (aM.refl (encForm_gnd dmg))) (aM.refl rfl))))<|(zR)<|(e8 (n2 hfl hft))<|(zK hsB (hwk:=(.cons (.ag (aM.refl (encForm_gnd dmg))) (aM.refl rfl))) (hfl:=.inr (.cons (.ag (aM.refl (encForm_gnd dmg))) (aM.refl rfl))))<|(zR) ?_
 cases hF:decide (eF=0)
 ·exact(aq hF)<|(bq)<|zo [.tmp 12]
 cases hA:decide (eA=0)
 ·exact(aq (n2 hF hA))<|(bq)<|zo [.tmp 12]
 cases hB:decide (eB=0)
 ·exact(aq (n3 hF hA hB))<|(bq)<|zo [.tmp 12]
 obtain⟨q1,q2,q3⟩:=hlaw (ww hF) (ww hA) (ww hB)
 refine(aq (n3 hF hA hB))<|(ee)<|(zs) ?_;refine zL A (λk=>True) (λk=>[(13,ao true),(19,slS 2 A encSh),(20,aa oA),(22,slS 2 B encSh),(23,aa oB),(25,aa k)]) (λk=>[]) zH zp ?_;intro k hk hall
 by_cases hlt:k<A.length
 ·have hd:=show decide ((k:Int)<(A.length:Int))=true by simp only[wp];omega
  obtain⟨s,hx⟩:∃x,A[k]?=some x:=⟨A[k],ax hlt⟩
  have hnlt:decide (ofSh B s.pt<s.am)=false:=by
   have h1:=q1 s.pt;have h2:=q2 s (aj hx);rw[wd];omega
  refine(aq hd)<|(dI)<|(zs) ?_;refine kU [0,0,0,6,14,30,63,0,0,384,896,1920,4095] ?_;refine(jL (n3 hlt (au (e:=2) (enc:=encSh) (λ_=>rfl) hx) @encSh.eq_1)) ?_;refine SD.k (by rfl) rfl rfl (by rfl) rfl rfl zc (yz B s.pt hlB) (zw) rfl ?_;refine(jL (n4 hlt (au (e:=2) (enc:=encSh) (λ_=>rfl) hx) @encSh.eq_1 hnlt))<|(zM)<|(zN)<|(aq (zi hlt hlA)) ?_;refine zX hlt zH trivial
 obtain rfl:k=A.length:=by omega
 exact(aq (show decide ((A.length:Int)<(A.length:Int))=false by simp))<|(cV)<|(aq (show decide (oB<=oA)=true by rw[wp];exact q3))<|zo [.tmp 12]
end Go.Proofs
namespace Go.Ev
open Go.RowKit Go.ChangeShapes Go.WideShapes Go.Deep
noncomputable section
mutual
def xc:DV->SV
 | .fl a=>.a a
 | .sl _ n e cs=>.sl n e (dE cs)
 | .ag cs=>.ag (dE cs)
def dE:List DV->List SV
 | []=>[]
 | d::ds=>xc d::dE ds
end
def uL:∀a b:List DV,dE (a++b)=dE a++dE b
 | [],b=>rfl
 | d::a,b=>by rw[b9,dE,dE,uL a b,b9]
def xT(h:H):ff:=λid=>if id<h.next then h.aD.get id else none
def Dm(h:H):Br (xT h) h:=by
 intro id ob hi;unfold xT at hi;split at hi
 ·rename_i hl;exact⟨hl,hi⟩
 ·cases hi
def Cj{h:H}{id:Nat}{row:List AV}(hl:id<h.next)(hr:kg h.aD id=some row):rowR (xT h) id=some row:=by
 unfold rowR xT;rw[t8 hl];unfold kg at hr
 cases hg:h.aD.get id with
 | none=>rw[hg] at hr;cases hr
 | some o=>
  rw[hg] at hr
  cases o<;>first | exact hr | cases hr
mutual
def Dp.gs{s:Bool}{h:H}:∀{d:DV} {a:AV},Dp s h d a->GS (xT h) (xc d) a
 | .fl a0,a,hd=>by
  rw[EF] at hd;rw[xc,GS];exact hd.1
 | .sl nl n e cs,a,hd=>by
  rw[yW] at hd;rw[xc,GS]
  rcases hd with⟨h1,h2,⟨o,e',c,h3,h4,h5⟩,_⟩ | ⟨_,id,off,cap,row,aS,e1,h1,h2,h3,h4,h5⟩
  ·subst h2;exact .inl ⟨h1,by rw[dE],o,e',c,by rw[h3],h4,h5⟩
  ·exact .inr ⟨id,off,cap,row,e1,Cj h1 h2,h3,by rw[<-h4];exact tS.gs h5⟩
 | .ag cs,a,hd=>by
  rw[EE] at hd;obtain⟨aS,e1,h1⟩:=hd;rw[xc,GS];exact⟨aS,e1,tS.gs h1⟩
def tS.gs{s:Bool}{h:H}:∀{ds:List DV} {aS:List AV},tS s h ds aS->e9 (xT h) (dE ds) aS
 | [],aS,hd=>by rw[CJ] at hd;rw[dE,e9];exact hd
 | d::ds,aS,hd=>by
  rw[Bm] at hd;obtain⟨a,r,e1,h1,h2⟩:=hd;rw[dE,e9];exact⟨a,r,e1,Dp.gs h1,tS.gs h2⟩
end
def Eh{P:Program}(hng:kV P){f:FuncId}{fn:Func}(hf:P.funcs[f]?=some fn)(hb:fn.body.isSome=true){w:World}{ds:List DV}{args':Array Value}(hw:gP w ds args'.toList)
 (hc:PC P f (dE ds) (·=.a (.bool true))):Calls P f args' w λe w'=>e=.returned (.bool true)/\Below w.heap.size w w':=by
 obtain⟨σ,k1,k2⟩:=hw.lay;have hd:=gP.dp (rows:=(cQ ds 0).2) hw 0 (λi r hr=>by rw[et];exact hr);have hfine:=hc (xT _) _ _ (Dm _) hd.gs σ w args' k1 k2;rw[c9 hng hf hb] at hfine;refine Calls.mono hfine λe w' ⟨x,he,a,h',⟨r,ρ',hr,_,_,hg⟩,σ',hV,hr',hE⟩=>?_;subst hr;rw[GS] at hg;subst hg;cases hV;exact⟨he,xr hE⟩
end
end Go.Ev
namespace Go.Proofs
open Go.Ev
set_option maxRecDepth 100000
abbrev i6:Ty:=.int .i64
def evTy:List Ty:=[i6,i6,.str,.str,.str,.str,.str,.str,.st [.st [i6,i6],.st [i6,i6],.st [i6,i6]]]
def slotTy:List Ty:=[.str,.sl .str,i6]
def kindTy:List Ty:=[.str,.bool,.sl (.st slotTy)]
def repTy:List Ty:=[.sl (.st evTy),.bool]
def wyTy:List Ty:=[.str,.str,i6,i6,i6]
def coTy:List Ty:=[.str,.str,i6,i6]
def frmTy:Nat->Ty
 | 0=>.no 3
 | 1=>.st [.no 1,.no 1,.no 1]
 | j+2=>.st [i6,i6,.sl (frmTy j)]
def frmTy_size:∀j,(frmTy j).size=3
 | 0=>rfl
 | 1=>rfl
 | j+2=>rfl
def sl_of{α:Type}(enc:α->List SV)(ok:α->Prop):∀{rows:List (List DV)},(∀r∈rows,∃x,dE r=enc x/\ok x)->∃xs:List α,xs.length=rows.length/\dE rows.flatten=xs.flatMap enc/\∀x∈xs,ok x
 | [],_=>⟨[],rfl,rfl,λx hx=>by cases hx⟩
 | r::rows,h=>by
  obtain⟨x,h1,h2⟩:=h r ac;obtain⟨xs,h3,h4,h5⟩:=sl_of enc ok (rows:=rows) λq hq=>h q (af _ hq);refine⟨x::xs,by rw[bb,bb,h3],by rw[List.flatten_cons,uL,h1,h4,be],λy hy=>?_⟩
  rcases mem_cons.1 hy with rfl | hy
  ·exact h2
  ·exact h5 y hy
def dv_sl{α:Type}{enc:α->List SV}{nl:Bool}{e:Nat}{rows:List (List DV)}{xs:List α}(h1:xs.length=rows.length)(h2:dE rows.flatten=xs.flatMap enc):xc (.sl nl rows.length e rows.flatten)=slS e xs enc:=by
 rw[xc,h2,slS,h1]
section
variable {B:Nat} {ds:List DV}
def ev_of(hk:cR B evTy ds):∃e:EvM,dE ds=encEv e/\EvB e:=by
 unfold evTy at hk;obtain⟨a1,r,rfl,_,hk⟩:=cG hk;obtain⟨a2,r,rfl,_,hk⟩:=cG hk;obtain⟨s1,r,rfl,b1,_,hk⟩:=dy hk;obtain⟨s2,r,rfl,b2,_,hk⟩:=dy hk;obtain⟨s3,r,rfl,b3,_,hk⟩:=dy hk;obtain⟨s4,r,rfl,b4,_,hk⟩:=dy hk;obtain⟨s5,r,rfl,b5,_,hk⟩:=dy hk;obtain⟨s6,r,rfl,b6,_,hk⟩:=dy hk;have hk:cR B [.st [i6,i6],.st [i6,i6],.st [i6,i6]] r:=lJ hk;have hk:cR B [i6,i6,.st [i6,i6],.st [i6,i6]] r:=lJ hk;obtain⟨u1,r,rfl,_,hk⟩:=cG hk;obtain⟨u2,r,rfl,_,hk⟩:=cG hk;have hk:cR B [i6,i6,.st [i6,i6]] r:=lJ hk;obtain⟨u3,r,rfl,_,hk⟩:=cG hk;obtain⟨u4,r,rfl,_,hk⟩:=cG hk;have hk:cR B [i6,i6] r:=lJ hk;obtain⟨u5,r,rfl,_,hk⟩:=cG hk;obtain⟨u6,r,rfl,_,hk⟩:=cG hk;have:=gA hk;subst this;exact⟨⟨a1,a2,s1,s2,s3,s4,s5,s6,u1,u2,u3,u4,u5,u6⟩,by simp only[dE,xc,encEv],⟨b1,b2,b3,b4,b5,b6⟩⟩
def str_of(hk:gW B .str ds):∃s:List Nat,dE ds=one1 ae s/\∀b∈s,b<256:=by
 rw[gW] at hk;obtain⟨s,rfl,h1,_⟩:=hk;exact⟨s,by simp only[dE,xc,one1],h1⟩
def slot_of(hk:cR B slotTy ds):∃s:KSlot,dE ds=encSlot s/\∀b∈s.name,b<256:=by
 unfold slotTy at hk;obtain⟨s1,r,rfl,b1,_,hk⟩:=dy hk;obtain⟨nl,rows,r,rfl,_,hr,hk⟩:=lI hk;obtain⟨a2,r,rfl,_,hk⟩:=cG hk;have:=gA hk;subst this;obtain⟨xs,h1,h2,_⟩:=sl_of (one1 ae) (λs=>∀b∈s,b<256) λr hrr=>str_of (hr r hrr);exact⟨⟨s1,xs,a2⟩,by simp only[dE,dv_sl h1 h2,encSlot];rfl,b1⟩
def kind_of(hk:cR B kindTy ds):∃k:KKind,dE ds=encKind k/\((∀b∈k.name,b<256)/\∀s∈k.slots,∀b∈s.name,b<256):=by
 unfold kindTy at hk;obtain⟨s1,r,rfl,b1,_,hk⟩:=dy hk;obtain⟨v,r,rfl,hk2⟩:=rL hk;obtain⟨nl,rows,r,rfl,_,hr,hk⟩:=lI hk2;have:=gA hk;subst this;obtain⟨xs,h1,h2,h3⟩:=sl_of encSlot (λs=>∀b∈s.name,b<256) λr hrr=>slot_of (by have:=hr r hrr;rw[gW] at this;exact this);exact⟨⟨s1,v,xs⟩,by simp only[dE,dv_sl h1 h2,encKind];rfl,b1,h3⟩
def rep_of(hB:B<=BIG)(hk:cR B repTy ds):∃r:RepM,dE ds=encRep r/\(r.opts.length<=BIG/\∀e∈r.opts,EvB e):=by
 unfold repTy at hk;obtain⟨nl,rows,r,rfl,hl,hr,hk⟩:=lI hk;obtain⟨v,r,rfl,hk2⟩:=rL hk;have:=gA hk2;subst this;obtain⟨xs,h1,h2,h3⟩:=sl_of encEv EvB λr hrr=>ev_of (by have:=hr r hrr;rw[gW] at this;exact this);exact⟨⟨xs,v⟩,by simp only[dE,dv_sl h1 h2,encRep];rfl,by show xs.length<=BIG;omega,h3⟩
def wy_ofD(hB:B<=BIG)(hk:cR B wyTy ds):∃w:Wy,dE ds=encWy w/\((w.kind.length<=BIG/\w.maker.length<=BIG)/\((∀b∈w.kind,b<256)/\∀b∈w.maker,b<256)):=by
 unfold wyTy at hk;obtain⟨s1,r,rfl,b1,l1,hk⟩:=dy hk;obtain⟨s2,r,rfl,b2,l2,hk⟩:=dy hk;obtain⟨a1,r,rfl,_,hk⟩:=cG hk;obtain⟨a2,r,rfl,_,hk⟩:=cG hk;obtain⟨a3,r,rfl,_,hk⟩:=cG hk;have:=gA hk;subst this;exact⟨⟨s1,s2,a1,a2,a3⟩,by simp only[dE,xc,encWy_eq],⟨by show s1.length<=BIG;omega,by show s2.length<=BIG;omega⟩,b1,b2⟩
def co_ofD(hB:B<=BIG)(hk:cR B coTy ds):∃w:Co,dE ds=encCo w/\((w.part.length<=BIG/\w.owner.length<=BIG)/\((∀b∈w.part,b<256)/\∀b∈w.owner,b<256)):=by
 unfold coTy at hk;obtain⟨s1,r,rfl,b1,l1,hk⟩:=dy hk;obtain⟨s2,r,rfl,b2,l2,hk⟩:=dy hk;obtain⟨a1,r,rfl,_,hk⟩:=cG hk;obtain⟨a2,r,rfl,_,hk⟩:=cG hk;have:=gA hk;subst this;exact⟨⟨s1,s2,a1,a2⟩,by simp only[dE,xc,encCo_eq],⟨by show s1.length<=BIG;omega,by show s2.length<=BIG;omega⟩,b1,b2⟩
def frm_of(hB:B<=BIG):∀(j:Nat) {ds:List DV},gW B (frmTy j) ds->∃f:FormM,dE ds=encForm f/\FormBig f
 | 0,ds,h=>by
  rw[frmTy,gW] at h;exact h.elim
 | 1,ds,h=>by
  rw[frmTy,gW,cR] at h;obtain⟨_,_,_,h,_⟩:=h;rw[gW] at h;exact h.elim
 | j+2,ds,h=>by
  rw[frmTy,gW] at h;obtain⟨a1,r,rfl,_,hk⟩:=cG h;obtain⟨a2,r,rfl,_,hk⟩:=cG hk;obtain⟨nl,rows,r,rfl,hl,hr,hk⟩:=lI hk;have:=gA hk;subst this;obtain⟨xs,h1,h2,h3⟩:=sl_of encForm FormBig λr hrr=>frm_of hB j (hr r hrr);refine⟨.mk a1 a2 xs,?_,.mk (by omega) h3⟩;rw[encForm_mk,frmTy_size];simp only[dE,xc,dv_sl h1 h2,h2,h1]
end
def setup_of{B:Nat}(hB:B<=BIG){j:Nat}{ds:List DV}(hk:cR B [.st [.sl (.st kindTy)],frmTy j] ds):∃(c:List KKind) (f:FormM),dE ds=slS 3 c encKind::encForm f/\FormBig f/\∀k∈c,(∀b∈k.name,b<256)/\∀s∈k.slots,∀b∈s.name,b<256:=by
 have hk:cR B [.sl (.st kindTy),frmTy j] ds:=lJ hk;obtain⟨nl,rows,r,rfl,hl,hr,hk⟩:=lI hk;rw[cR] at hk;obtain⟨d1,d2,rfl,h1,h2⟩:=hk;rw[cR] at h2;subst h2;obtain⟨f,h3,h4⟩:=frm_of hB j h1;obtain⟨xs,k1,k2,k3⟩:=sl_of encKind (λk=>(∀b∈k.name,b<256)/\∀s∈k.slots,∀b∈s.name,b<256) λr hrr=>kind_of (by have:=hr r hrr;rw[gW] at this;exact this);exact⟨xs,f,by rw[dE,dv_sl k1 k2,ct,h3];rfl,h4,k3⟩
end Go.Proofs
namespace Go.Proofs.YtibnohghfgmahaaGreat
open Go.Proofs Go.Ev Go.ChangeShapes Go.WideShapes Go.ChangeAt Go.RowKit
set_option maxRecDepth 100000
def ownK:ownKnob prog.godebug=none:=by kernel_rfl
def outL:laidOutB prog=true:=by kernel_rfl
def two_of{α:Type}:∀{l:List α},l.length=2->∃a b,l=[a,b]
 | [a,b],_=>⟨a,b,rfl⟩
def three_of{α:Type}:∀{l:List α},l.length=3->∃a b c,l=[a,b,c]
 | [a,b,c],_=>⟨a,b,c,rfl⟩
def ty_frm:∀k,gL prog k 27=some (frmTy k)
 | 0=>by kernel_rfl
 | 1=>by kernel_rfl
 | k+2=>by
  have ih:=ty_frm k
  have h1:gL prog (k+1) 25=some (.sl (frmTy k)):=by
   unfold gL;rw[show prog.underlying 25=some (.slice 27) by kernel_rfl];simp only;rw[ih,d8,frmTy_size,show(Nat.beq (prog.cellsOf 27) 3&&(ble 1 3&&ble 1 (prog.bytesOf 27)))=true by kernel_rfl];rfl
  have h2:gL prog (k+1) 3=some i6:=by kernel_rfl
  obtain⟨fs,hu,hfs⟩:∃fs,prog.underlying 27=some (.struct fs)/\fs.toList.map (λf=>(f.type,f.offset))=[(3,0),(3,1),(25,2)]:=by
   have q:(prog.underlying 27).bind (λu=>match u with | .struct fs=>some (fs.toList.map (λf=>(f.type,f.offset))) | _=>none)=some [(3,0),(3,1),(25,2)]:=by kernel_rfl
   obtain⟨u,e1,e2⟩:=Option.bind_eq_some_iff.1 q
   cases u<;>first | (cases e2;done) | exact⟨_,e1,Option.some.inj e2⟩
  unfold gL;rw[hu];simp only;generalize fs.toList=l at hfs;obtain⟨a,b,c,rfl⟩:=three_of (by have:=congrArg ge hfs;rwa [bw] at this)
  ·simp only[aO,d9,List.cons.injEq,Prod.mk.injEq,and_true] at hfs;obtain⟨⟨a1,a2⟩,⟨b1,b2⟩,c1,c2⟩:=hfs
   have n1:prog.cellsOf 3=1:=by kernel_rfl
   have n2:prog.cellsOf 25=1:=by kernel_rfl
   have n3:prog.cellsOf 27=3:=by kernel_rfl
   simp only[eP,a1,a2,b1,b2,c1,c2,h1,h2,n1,n2,n3,d8,ex,Ty.size,Ty.nq,g5,cond_true,et,go,frmTy]
def ty_setup(j:Nat):gL prog (j+12) 29=some (.st [.st [.sl (.st kindTy)],frmTy (j+11)]):=by
 obtain⟨fs,hu,hfs⟩:∃fs,prog.underlying 29=some (.struct fs)/\fs.toList.map (λf=>(f.type,f.offset))=[(24,0),(27,1)]:=by
  have q:(prog.underlying 29).bind (λu=>match u with | .struct fs=>some (fs.toList.map (λf=>(f.type,f.offset))) | _=>none)=some [(24,0),(27,1)]:=by kernel_rfl
  obtain⟨u,e1,e2⟩:=Option.bind_eq_some_iff.1 q
  cases u<;>first | (cases e2;done) | exact⟨_,e1,Option.some.inj e2⟩
 have h1:gL prog (j+11) 24=some (.st [.sl (.st kindTy)]):=by kernel_rfl
 have h2:=ty_frm (j+11);unfold gL;rw[hu];simp only;generalize fs.toList=l at hfs;obtain⟨a,b,rfl⟩:=two_of (by have:=congrArg ge hfs;rwa [bw] at this)
 ·simp only[aO,d9,List.cons.injEq,Prod.mk.injEq,and_true] at hfs;obtain⟨⟨a1,a2⟩,b1,b2⟩:=hfs
  have n1:prog.cellsOf 24=1:=by kernel_rfl
  have n2:prog.cellsOf 27=3:=by kernel_rfl
  have n3:prog.cellsOf 29=4:=by kernel_rfl
  have h2:gL prog (j+11) 27=some (frmTy (j+11)):=h2;simp only[eP,a1,a2,b1,b2,h1,h2,n1,n2,n3,d8,ex,Ty.size,Ty.nq,frmTy_size,g5,cond_true,et,go]
def ty_ws(j:Nat):gL Tryz.prog (j+12) 30=some (.sl (.st wyTy)):=by kernel_rfl
def ty_l(j:Nat):gL Tryz.prog (j+12) 31=some (.sl (.st repTy)):=by kernel_rfl
def ty_co(j:Nat):gL Tryz.prog (j+12) 33=some (.st coTy):=by kernel_rfl
def ty_u8(j:Nat):gL Tryz.prog (j+12) 5=some (.int .u8):=by kernel_rfl
def params6:Tryz.f3.params.toList=[29,30,31,5,5,33]:=by kernel_rfl
def reachA:reachBytes<=BIG:=by decide
section
variable {H:Type} {enc:TypeId×Value->H} {P:Program} {w:World} {base:Nat} {spare:Nat->Bool} {held:Bool}
def trodAll_six{t t' t2 t3 t4 t5:TypeId}{args:Array Value}{ds:List (DataW H)}{ps:List MemPlace}(h:DataW.TrodAll enc P w base spare held [t,t',t2,t3,t4,t5] args.toList ds ps):
 ∃v v' v2 v3 v4 v5 d d' d2 d3 d4 d5 p p' p2 p3 p4 p5,args=#[v,v',v2,v3,v4,v5]/\ds=[d,d',d2,d3,d4,d5]/\ps=p++p'++p2++p3++p4++p5/\DataW.Trod enc P w base spare held t v d p/\DataW.Trod enc P w base spare held t' v' d' p'/\DataW.Trod enc P w base spare held t2 v2 d2 p2/\DataW.Trod enc P w base spare held t3 v3 d3 p3/\DataW.Trod enc P w base spare held t4 v4 d4 p4/\DataW.Trod enc P w base spare held t5 v5 d5 p5:=by
 obtain⟨v,_,d,_,p,_,hargs,rfl,rfl,hd,h⟩:=trodAll_cons h;obtain⟨v',_,d',_,p',_,rfl,rfl,rfl,hd',h⟩:=trodAll_cons h;obtain⟨v2,_,d2,_,p2,_,rfl,rfl,rfl,hd2,h⟩:=trodAll_cons h;obtain⟨v3,_,d3,_,p3,_,rfl,rfl,rfl,hd3,h⟩:=trodAll_cons h;obtain⟨v4,_,d4,_,p4,_,rfl,rfl,rfl,hd4,h⟩:=trodAll_cons h;obtain⟨v5,_,d5,_,p5,_,rfl,rfl,rfl,hd5,h⟩:=trodAll_cons h;obtain⟨rfl,rfl,rfl⟩:=trodAll_nil h;exact⟨v,v',v2,v3,v4,v5,d,d',d2,d3,d4,d5,p,p',p2,p3,p4,p5,by cases args;simp_all,rfl,by simp,hd,hd',hd2,hd3,hd4,hd5⟩
def u8_of{B:Nat}{y:DV}(h:Fw B (.int .u8) y):∃n:Nat,y=.fl (.int .u8 (n:Int))/\n<256:=by
 have h:gW B (.int .u8) [y]:=h;rw[gW] at h;obtain⟨n,e,w⟩:=h;simp only[List.cons.injEq,and_true] at e;subst e;have w:(decide ((0:Int)<=n)&&decide (n<=255))=true:=w;rw[ad,wp,wp] at w;exact⟨n.toNat,by rw[e5 w.1],by omega⟩
def trodAll_mk6{t t' t2 t3 t4 t5:TypeId}{v v' v2 v3 v4 v5:Value}{d d' d2 d3 d4 d5:DataW H}{p p' p2 p3 p4 p5:List MemPlace}(h:DataW.Trod enc P w base spare held t v d p)(h':DataW.Trod enc P w base spare held t' v' d' p')
 (h2:DataW.Trod enc P w base spare held t2 v2 d2 p2) (h3:DataW.Trod enc P w base spare held t3 v3 d3 p3) (h4:DataW.Trod enc P w base spare held t4 v4 d4 p4) (h5:DataW.Trod enc P w base spare held t5 v5 d5 p5):DataW.TrodAll enc P w base spare held [t,t',t2,t3,t4,t5] [v,v',v2,v3,v4,v5] [d,d',d2,d3,d4,d5] (p++(p'++(p2++(p3++(p4++p5))))):=⟨p,p'++(p2++(p3++(p4++p5))),h,⟨p',p2++(p3++(p4++p5)),h',trodAll_mk4 h2 h3 h4 h5,rfl⟩,rfl⟩
end
def evid_lifted(os:Os)(started:os.Started)(H:Type)(enc:TypeId×Value->H):
 ReturnsInHanded {} f5 os 3 .any (Rows.costEvidenceSpec.pre6 enc prog Tryz.f3 Rows.costEvidenceRow.domain false) (Rows.costEvidenceSpec.post enc prog Tryz.f3 false true false false):=by
 refine returnsInHanded_of_change_sized (C:=f5) ownK started (by kernel_rfl) func3
  (ChangeSpec.witness6 (enc:=enc) (C:=f5) false ⟨#[],#[.agg #[.slice none 0 0,.int .i64 0,.int .i64 0,.slice none 0 0],.slice none 0 0,.slice none 0 0,.int .u8 0,.int .u8 0,.agg #[.string ⟨#[]⟩,.string ⟨#[]⟩,.int .i64 0,.int .i64 0]],[]⟩ 8 (by kernel_rfl) (by kernel_rfl) (by kernel_rfl) (by kernel_rfl)) ?_
 intro W base args ds gs before hval0 hW _ hwt0 _;have hval:∀(j:Nat) t v,Tryz.f3.params[j]?=some t->args[j]?=some v->Value.okWide prog W .any base t v:=hval0;have hW':=hW;obtain⟨p,q,hA0,hV,rfl,hfz,hnd⟩:=hW;have hA:DataW.TrodAll enc prog W 0 (λ_=>true) true Tryz.f3.params.toList args.toList ds p:=hA0;rw[params6] at hA;obtain⟨v0,v1,v2,v4,v5,v3,d0,d1,d2,d4,d5,d3,p0,p1,p2,p4,p5,p3,rfl,rfl,rfl,h0,h1,h2,h4,h5,h3⟩:=trodAll_six hA;obtain⟨rfl,rfl⟩:=trodVars_none hV;have hwt1:(DataW.weightsEach prog (Tryz.f3.params.toList++Rows.costEvidenceSpec.plain.varTypes prog) ([d0,d1,d2,d4,d5,d3]++[])).all (·<=reachBytes)=true:=hwt0
 have hwt:∀{j:Nat} {t:TypeId} {d:DataW H},(Tryz.f3.params.toList++Rows.costEvidenceSpec.plain.varTypes prog)[j]?=some t->([d0,d1,d2,d4,d5,d3]++[])[j]?=some d->∀x∈d.weights prog t,x<=reachBytes:=by
  intro j t d ht hd x hx;have:=all_eq_true.1 hwt1 x (DataW.weights_mem_each ht hd x hx);simpa using this
 obtain⟨j0,y0,o0,w0⟩:=iu ty_setup (hval 0 29 v0 (by kernel_rfl) rfl) h0 (hwt (j:=0) (by kernel_rfl) rfl);obtain⟨_,y1,o1,w1⟩:=iu ty_ws (hval 1 30 v1 (by kernel_rfl) rfl) h1 (hwt (j:=1) (by kernel_rfl) rfl);obtain⟨_,y2,o2,w2⟩:=iu ty_l (hval 2 31 v2 (by kernel_rfl) rfl) h2 (hwt (j:=2) (by kernel_rfl) rfl);obtain⟨_,y4,o4,w4⟩:=iu ty_u8 (hval 3 5 v4 (by kernel_rfl) rfl) h4 (hwt (j:=3) (by kernel_rfl) rfl);obtain⟨_,y5,o5,w5⟩:=iu ty_u8 (hval 4 5 v5 (by kernel_rfl) rfl) h5 (hwt (j:=4) (by kernel_rfl) rfl);obtain⟨_,y3,o3,w3⟩:=iu ty_co (hval 5 33 v3 (by kernel_rfl) rfl) h3 (hwt (j:=5) (by kernel_rfl) rfl);obtain⟨e0,rfl,o0⟩:=o0;obtain⟨e3,rfl,o3⟩:=o3;obtain⟨m4,rfl,u4⟩:=u8_of (B:=reachBytes) o4;obtain⟨m5,rfl,u5⟩:=u8_of (B:=reachBytes) o5;have o1:gW reachBytes (.sl (.st wyTy)) [y1]:=o1;have o2:gW reachBytes (.sl (.st repTy)) [y2]:=o2;rw[gW] at o1 o2;obtain⟨n1,rows1,e1,b1,k1⟩:=o1;obtain⟨n2,rows2,e2,b2,k2⟩:=o2;simp only[List.cons.injEq,and_true] at e1 e2;subst e1;subst e2;obtain⟨c,dmg,s0,f0,f1⟩:=setup_of reachA o0;obtain⟨ws,s1,t1,g1⟩:=sl_of encWy (λw=>(w.kind.length<=BIG/\w.maker.length<=BIG)/\((∀b∈w.kind,b<256)/\∀b∈w.maker,b<256)) λr hr=>wy_ofD reachA (by have:=k1 r hr;rw[gW] at this;exact this);obtain⟨l,s2,t2,g2⟩:=sl_of encRep (λr=>r.opts.length<=BIG/\∀e∈r.opts,EvB e) λr hr=>rep_of reachA (by have:=k2 r hr;rw[gW] at this;exact this);obtain⟨co,s3,f3,f4⟩:=co_ofD reachA o3;have hr:=reachA;have hlaw:=qF c dmg ws l co m4 m5 u4 u5 ⟨f0,f1,by omega,λw hw=>(g1 w hw).1,λw hw=>(g1 w hw).2,f3,f4,by omega,λr hr=>(g2 r hr).1,λr hr=>(g2 r hr).2⟩
 have hwd:gP W [.ag e0,.sl n1 rows1.length (Ty.st wyTy).size rows1.flatten,.sl n2 rows2.length (Ty.st repTy).size rows2.flatten,.fl (.int .u8 (m4:Int)),.fl (.int .u8 (m5:Int)),.ag e3] (#[v0,v1,v2,v4,v5,v3]:Array Value).toList:=by
  rw[cy];refine⟨_,_,rfl,w0,?_⟩;rw[cy];refine⟨_,_,rfl,w1,?_⟩;rw[cy];refine⟨_,_,rfl,w2,?_⟩;rw[cy];refine⟨_,_,rfl,w4,?_⟩;rw[cy];refine⟨_,_,rfl,w5,?_⟩;rw[cy];refine⟨_,_,rfl,w3,?_⟩;rw[eh]
 have hdv:dE [.ag e0,.sl n1 rows1.length (Ty.st wyTy).size rows1.flatten,.sl n2 rows2.length (Ty.st repTy).size rows2.flatten,.fl (.int .u8 (m4:Int)),.fl (.int .u8 (m5:Int)),.ag e3]=[.ag (slS 3 c encKind::encForm dmg),slS 5 ws encWy,slS 2 l encRep,.a (.int .u8 (m4:Int)),.a (.int .u8 (m5:Int)),.ag (encCo co)]:=by
  simp only[dE,dv_sl s1 t1,dv_sl s2 t2];rw[xc,xc,xc,xc,s0,s3];rfl
 refine(Eh cw func3 rfl hwd (by rw[hdv];exact hlaw)).mono λe W' ⟨he,hb⟩=>?_;subst he
 have hlt:∀x∈p0++p1++p2++p4++p5++p3,x.block<W.heap.size:=λx hx=>by simpa using hW'.lt x (by simpa using hx)
 have z0:=Below.trod outL (by kernel_rfl) (ww (by kernel_rfl)) h0 hb (λx hx=>hlt x (by simp[hx]));have z1:=Below.trod outL (by kernel_rfl) (ww (by kernel_rfl)) h1 hb (λx hx=>hlt x (by simp[hx]));have z2:=Below.trod outL (by kernel_rfl) (ww (by kernel_rfl)) h2 hb (λx hx=>hlt x (by simp[hx]));have z4:=Below.trod outL (by kernel_rfl) (ww (by kernel_rfl)) h4 hb (λx hx=>hlt x (by simp[hx]));have z5:=Below.trod outL (by kernel_rfl) (ww (by kernel_rfl)) h5 hb (λx hx=>hlt x (by simp[hx]));have z3:=Below.trod outL (by kernel_rfl) (ww (by kernel_rfl)) h3 hb (λx hx=>hlt x (by simp[hx]));exact⟨_,rfl,_,_,_,[],_,[],hW',trodAll_mk1 (shut_bool Tryz.underlying4 true),trodAll_mk6 z0 z1 z2 z4 z5 z3,rfl,hb.frame _,λh=>by cases h⟩
end Go.Proofs.YtibnohghfgmahaaGreat
