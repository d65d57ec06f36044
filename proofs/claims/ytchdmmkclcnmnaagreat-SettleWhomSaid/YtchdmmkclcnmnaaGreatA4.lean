/- Lemmas of this claim, each with its conditions. -/
import Derived.Test.YtchdmmkclcnmnaaGreatA3
set_option linter.all false
open Option renaming bind_some -> aa, map_some -> ad, getD_some -> a0
open List renaming getElem?_eq_getElem -> ac, getElem?_cons_succ -> aj, getElem?_eq_none -> al
open Array renaming getElem?_setIfInBounds -> af, toList_push -> ax
open Nat renaming le_refl -> ag, mul_le_mul_right -> ap, add_assoc -> aS, lt_or_ge -> a5
open Bool renaming or_eq_true -> ay
namespace Go.Ev
def VO(σ:Sg)(x:Option AV)(v:Option Value):Prop:=match x,v with
 | none,none=>True
 | some x,some v=>V σ x v
 | _,_=>False
def eJ{P:Program}{σ:Sg}{w:World}{x:AV}{v:Value}{n y:Nat}(h:di x=some n)(hv:V σ x v)(hle:n<=y)(code:BoundsCode):(Instr.sliceBound v y code).run P w=.ok n w:=by
 obtain⟨k,rfl,hk⟩:=kR (P:=P) (w:=w) h hv;simp only[Instr.sliceBound,Sem.run_bind,hk,Result.andThen_ok];rw[ul (by omega)];simp
def TQ(isS:Bool)(len c:Nat)(hi:Option Value):Sem Nat:=match hi with
 | some v=>Instr.sliceBound v c (if isS then .sliceAcap else .sliceAlen)
 | none=>pure len
def Tu(h:Nat)(lo:Option Value):Sem Nat:=match lo with
 | some v=>Instr.sliceBound v h .sliceB
 | none=>pure 0
def Al{P:Program}{w:World}(isS:Bool)(len c:Nat)(lo hi:Option Value):
 (Instr.sliceBounds isS len c lo hi none).run P w=((TQ isS len c hi).run P w).andThen λh w1=>((Tu h lo).run P w1).andThen λl w2=>.ok (l,h,c) w2:=by
 cases hi<;>cases lo<;>simp[Instr.sliceBounds,TQ,Tu]
def pd{P:Program}{σ:Sg}{w:World}{len c:Nat}{cap:Option Nat}{lo hi mx:Option AV}{lo' hi' mx':Option Value}{l h:Nat}{m:Option Nat}(isS:Bool)
 (hb:cQ len cap lo hi mx=some (l,h,m)) (hlen:len<=c) (hcap:∀x,cap=some x->x=c) (h1:VO σ lo lo') (h2:VO σ hi hi') (h3:VO σ mx mx'):
 ∃m',(Instr.sliceBounds isS len c lo' hi' mx').run P w=.ok (l,h,m') w/\l<=h/\h<=m'/\m'<=c/\(∀x,m=some x->x=m'):=by
 have fitsle:∀n,oH len cap n=true->n<=c:=by
  intro n hn;simp only[oH,ay] at hn
  rcases hn with hn | hn
  ·have:=jq hn;omega
  ·cases cap with
   | none=>simp at hn
   | some x=>have:=hcap x rfl;have:=jq hn;omega
 unfold cQ at hb
 cases mx with
 | some v3=>
  cases mx' with
  | none=>exact h3.elim
  | some u3=>
   simp only at hb
   cases hm:di v3 with
   | none=>simp[hm] at hb
   | some m0=>
    simp only[hm,aa] at hb;obtain⟨hf,hb⟩:=aL hb;have hmc:=fitsle _ hf
    cases hi with
    | none=>simp at hb
    | some v2=>
     cases hi' with
     | none=>exact h2.elim
     | some u2=>
      simp only at hb
      cases hh:di v2 with
      | none=>simp[hh] at hb
      | some h0=>
       simp only[hh,aa] at hb;obtain⟨hhm,hb⟩:=aL hb;have hhm:=jq hhm
       cases lo with
       | none=>
        cases lo' with
        | some _=>exact h1.elim
        | none=>
         simp only[Option.some.injEq,Prod.mk.injEq] at hb;obtain⟨rfl,rfl,rfl⟩:=hb;refine⟨m0,?_,by omega,hhm,hmc,λx hx=>by simpa using hx.symm⟩;simp only[Instr.sliceBounds,Sem.run_bind,eJ hm h3 hmc,Result.andThen_ok,eJ hh h2 hhm,Sem.run_pure]
       | some v1=>
        cases lo' with
        | none=>exact h1.elim
        | some u1=>
         simp only at hb
         cases hl:di v1 with
         | none=>simp[hl] at hb
         | some l0=>
          simp only[hl,aa] at hb;obtain⟨hlh,hb⟩:=aL hb;have hlh:=jq hlh;simp only[Option.some.injEq,Prod.mk.injEq] at hb;obtain⟨rfl,rfl,rfl⟩:=hb;refine⟨m0,?_,hlh,hhm,hmc,λx hx=>by simpa using hx.symm⟩;simp only[Instr.sliceBounds,Sem.run_bind,eJ hm h3 hmc,Result.andThen_ok,eJ hh h2 hhm,eJ hl h1 hlh,Sem.run_pure]
 | none=>
  cases mx' with
  | some _=>exact h3.elim
  | none=>
   simp only at hb
   have hh:∃h0,nC len cap hi=some h0/\h0<=c/\
    (TQ isS len c hi').run P w=.ok h0 w:=by
    cases hi with
    | none=>
     cases hi' with
     | some _=>exact h2.elim
     | none=>exact⟨len,rfl,hlen,rfl⟩
    | some v2=>
     cases hi' with
     | none=>exact h2.elim
     | some u2=>
      cases hn:di v2 with
      | none=>simp[nC,hn] at hb
      | some h0=>
       cases hf:oH len cap h0 with
       | false=>simp[nC,hn,hf] at hb
       | true=>exact⟨h0,by simp[nC,hn,hf],fitsle _ hf,eJ hn h2 (fitsle _ hf) _⟩
   obtain⟨h0,e1,e2,e3⟩:=hh;simp only[e1,aa] at hb
   have e4:(Instr.sliceBounds isS len c lo' hi' none).run P w=((Tu h0 lo').run P w).andThen λl w2=>.ok (l,h0,c) w2:=by
    rw[Al,e3,Result.andThen_ok]
   cases lo with
   | none=>
    cases lo' with
    | some _=>exact h1.elim
    | none=>
     simp only[Option.some.injEq,Prod.mk.injEq] at hb;obtain⟨rfl,rfl,rfl⟩:=hb;exact⟨c,by rw[e4];rfl,by omega,e2,ag _,hcap⟩
   | some v1=>
    cases lo' with
    | none=>exact h1.elim
    | some u1=>
     simp only at hb
     cases hl:di v1 with
     | none=>simp[hl] at hb
     | some l0=>
      simp only[hl,aa] at hb;obtain⟨hlh,hb⟩:=aL hb;have hlh:=jq hlh;simp only[Option.some.injEq,Prod.mk.injEq] at hb;obtain⟨rfl,rfl,rfl⟩:=hb;refine⟨c,?_,hlh,e2,ag _,hcap⟩;rw[e4];simp only[Tu,eJ hl h1 hlh,Result.andThen_ok]
def yT{m:Option Nat}{l m' x:Nat}(hm:∀x,m=some x->x=m')(h:aU m l=some x):x=m'-l:=by
 cases m with
 | none=>simp[aU] at h
 | some y=>simp[aU] at h;rw[<-h,hm y rfl]
def I3{P:Program}{σ:Sg}{h:H}{w:World}(hr:HR σ h w){t:TypeId}{x r:AV}{v:Value}{lo hi mx:Option AV}{lo' hi' mx':Option Value}(hs:vQ P h t x lo hi mx=some r)
 (hv:V σ x v) (h1:VO σ lo lo') (h2:VO σ hi hi') (h3:VO σ mx mx'):∃z,(Instr.sliceAt t v lo' hi' mx').run P w=.ok z w/\V σ r z:=by
 unfold vQ at hs;split at hs
 ·rename_i n e id off hu
  cases hsz:cI P e with
  | none=>simp[hsz] at hs
  | some s=>
   simp only[hsz,aa] at hs
   cases hb:cQ n (some n) lo hi mx with
   | none=>simp[hb] at hs
   | some q=>
    obtain⟨l,hh,m⟩:=q;simp only[hb,aa] at hs;obtain⟨m',hrun,a1,a2,a3,a4⟩:=pd (P:=P) (w:=w) false hb (ag _) (λx hx=>by simpa using hx.symm) h1 h2 h3
    cases m with
    | none=>simp at hs
    | some m=>
     have:=a4 m rfl;subst this;simp only at hs;split at hs
     ·rename_i cs f ho;obtain⟨hle,hs⟩:=aL hs;have hle:=jq hle;simp only[Option.some.injEq] at hs;subst hs
      cases hv with
      | ptr hp=>
       obtain⟨q,c,e',hq,b1,b2,b3,b4⟩:=hr.cells ho;rw[hp] at hq;cases hq;refine⟨_,by simp only[Instr.sliceAt,Sem.run_bind,aN hu,Result.andThen_ok,Instr.sureAddr,Sem.run_pure,hrun,bZ hsz];rfl,?_⟩
       have hmul:l*s+(m-l)*s=m*s:=by rw[<-Nat.add_mul];congr 1;omega
       have hmn:m*s<=n*s:=ap _ a3;refine .slice hp (by omega) (by omega) (λx hx=>by simpa using hx.symm) ?_;by_cases hml:m=l
       ·right;omega
       ·left;rw[un hml,gS,aS]
     ·simp at hs
 ·rename_i s hu
  cases mx with
  | some _=>simp at hs
  | none=>
   cases mx' with
   | some _=>exact h3.elim
   | none=>
    simp only at hs
    cases hb:cQ s.length (some s.length) lo hi none with
    | none=>simp[hb] at hs
    | some q=>
     obtain⟨l,hh,m⟩:=q;simp only[hb,ad,Option.some.injEq] at hs;subst hs
     cases hv with
     | @str _ bs hbs=>
      have hsize:=um hbs;rw[<-hsize] at hb;obtain⟨m',hrun,a1,a2,a3,a4⟩:=pd (P:=P) (w:=w) (mx':=none) false hb (ag _) (λx hx=>by simpa using hx.symm) h1 h2 trivial;refine⟨.string (bs.extract l hh),?_,.str ?_⟩
      ·simp only[Instr.sliceAt,Sem.run_bind,aN hu,Result.andThen_ok,Instr.slice,Option.isSome_none,Bool.false_eq_true,if_false,hrun,Sem.run_pure]
      ·rw[<-hbs]
       have:(bs.extract l hh).data.toList=(bs.data.toList.drop l).take (hh-l):=by
        rw[ByteArray.data_extract];simp[List.extract_eq_take_drop]
       rw[this];simp
 ·rename_i e o len es cap hu
  cases hsz:cI P e with
  | none=>simp[hsz] at hs
  | some s=>
   simp only[hsz,aa] at hs
   cases hb:cQ len cap lo hi mx with
   | none=>simp[hb] at hs
   | some q=>
    obtain⟨l,hh,m⟩:=q;simp only[hb,aa] at hs
    cases o with
    | none=>
     simp only[Option.some.injEq] at hs;subst hs
     cases hv with
     | ik hl0=>
      subst hl0;obtain⟨m',hrun,a1,a2,a3,a4⟩:=pd (P:=P) (w:=w) (c:=0) true hb (ag _) (λx hx=>by simpa using hx.symm) h1 h2 h3
      have:m'=0:=by omega
      subst this
      have:hh=0:=by omega
      subst this
      have:l=0:=by omega
      subst this;exact⟨_,by simp only[Instr.sliceAt,Sem.run_bind,aN hu,Result.andThen_ok,Instr.slice,hrun,bZ hsz,Sem.run_pure,if_true],.ik rfl⟩
    | some q=>
     obtain⟨id,off⟩:=q;obtain⟨hes,hs9⟩:=aL hs;clear hs;have:=cU hes;subst this;simp only[Option.some.injEq] at hs9;subst hs9
     cases hv with
     | @slice _ _ _ _ _ a p c hp hl hroom hcap ha=>
      obtain⟨m',hrun,a1,a2,a3,a4⟩:=pd (P:=P) (w:=w) true hb hl hcap h1 h2 h3;refine⟨_,by simp only[Instr.sliceAt,Sem.run_bind,aN hu,Result.andThen_ok,Instr.slice,hrun,bZ hsz,Sem.run_pure];rfl,?_⟩
      have hmul:l*s+(m'-l)*s=m'*s:=by rw[<-Nat.add_mul];congr 1;omega
      have hmn:m'*s<=c*s:=ap _ a3;by_cases hml:m'=l
      ·rw[ul hml];exact .slice hp (by omega) (by omega) (λx hx=>yT a4 hx) (.inr (by omega))
      ·rw[un hml];have ha:=ha.resolve_right (by omega);subst ha;exact .slice hp (by omega) (by omega) (λx hx=>yT a4 hx) (.inl (by show Addr.add _ _=_;rw[gS,aS]))
 ·simp at hs
def wrap_small(n:Nat)(h:n<=1000000000000):IntKind.i64.wrap (n:Int)=(n:Int):=by
 have h1:decide (N9 .i64<=(n:Int))=true:=wd (show(-9223372036854775808:Int)<=(n:Int) by omega);have h2:decide ((n:Int)<=NW .i64)=true:=wd (show(n:Int)<=(9223372036854775807:Int) by omega);rw[<-iy];unfold dO;rw[iE,iE,h1,h2];rfl
def y8{P:Program}{σ:Sg}{w:World}{t:TypeId}{l c:AV}{l' c':Value}{n s m:Nat}{cs:List AV}(h:ic P t l c=some (n,s,m,cs))(hl:V σ l l')(hc:V σ c c'):
 ∃(a:Array Value) (e:TypeId),(Instr.makeSlice t l' c').run P w=.ok (.slice (some ⟨w.heap.size,0,none⟩) n m) { w with heap:=w.heap.push (.cells a e (0,0)) }/\VL σ cs a.toList/\n<=m/\cs.length=m*s:=by
 unfold ic at h;split at h
 ·rename_i e hu
  cases h1:di l with
  | none=>simp[h1] at h
  | some l0=>
   cases h2:di c with
   | none=>simp[h1,h2] at h
   | some c0=>
    cases hi:P.info? e with
    | none=>simp[h1,h2,hi] at h
    | some i=>
     cases hz:du P e with
     | none=>simp[h1,h2,hi,hz] at h
     | some z=>
      simp only[h1,h2,hi,hz,aa] at h;obtain⟨hcd,h⟩:=aL h;simp only[Bool.and_eq_true] at hcd;obtain⟨q1,q2,q3,q4,q5⟩:=hcd;have q1:=jq q1;have q2:=jq q2;have q3:=jq q3;have q4:=cU q4
      have q5:i.size≠0:=by intro e0;rw[e0] at q5;simp at q5
      simp only[Option.some.injEq,Prod.mk.injEq] at h;obtain⟨rfl,rfl,rfl,rfl⟩:=h;obtain⟨k1,rfl,hk1⟩:=kR (P:=P) (w:=w) h1 hl;obtain⟨k2,rfl,hk2⟩:=kR (P:=P) (w:=w) h2 hc;obtain⟨zv,hzr,hzV,i',hi',hzi⟩:=iI (w:=w) (σ:=σ) hz;rw[hi] at hi';cases hi'
      have hzl:zv.cells.size=i.size:=by have:=hzV.cells.1;simp at this;omega
      have hrep:=DT hzV.cells (by omega) c0;rw[q4] at hrep;have w1:IntKind.i64.wrap (l0:Int)=(l0:Int):=wrap_small _ (by omega);have w2:IntKind.i64.wrap (c0:Int)=(c0:Int):=wrap_small _ (by omega)
      have hbc0:i.bytes*c0<=10000000000:=by have:=Nat.mul_le_mul q3 q2;omega
      have hbc:(i.bytes:Int)*(c0:Int)<=10000000000:=by rw[<-Int.natCast_mul];omega
      refine⟨_,e,?_,hrep,q1,by rw[gj,q4]⟩;simp only[Instr.makeSlice,Sem.run_bind,aN hu,Result.andThen_ok,asInt,hk1,hk2,Sem.run_pure,de hi,w1,w2]
      have g1:¬((decide ((c0:Int)<0)||decide ((i.bytes:Int)*(c0:Int)>2^48))||decide ((l0:Int)<0)||decide ((l0:Int)>(c0:Int)))=true:=by
       simp only[ay,wr,not_or];refine⟨⟨⟨by omega,by omega⟩,by omega⟩,by omega⟩
      rw[un g1];simp only[Sem.run_bind,run_askRoom,Result.andThen_ok,bZ (show cI P e=some i.size by simp[cI,hi]),Int.toNat_natCast];by_cases h0:c0*i.size=0
      ·have hr0:Array.range 0=(#[]:Array Nat):=rfl;simp only[h0,if_true,Sem.run_bind,Sem.run_pure,Result.andThen_ok,newRow,run_newObj];simp[hr0]
      ·simp only[h0,if_false,Sem.run_bind,hzr,Result.andThen_ok,Sem.run_pure,newRow,run_newObj,hzl]
 ·simp at h
def l7:AO->Bool
 | .cells _ _=>true
 | .ro _=>true
 | _=>false
def cA{P:Program}{w:World}{r:Nat}{o:Obj}(h:w.heap[r]?=some o)(hn:∀c e f,o≠.cells c e f):(getObj r).run P w=.ok o w:=by
 simp only[getObj,Sem.run,h]
 try (split<;>simp_all)
 try (cases o<;>simp_all [Sem.run])
def eo{P:Program}{w:World}{r:Nat}{o o':Obj}(h:w.heap[r]?=some o)(hn:∀c e f,o≠.cells c e f):(setObj r o').run P w=.ok () { w with heap:=w.heap.setIfInBounds r o' }:=by
 simp only[setObj,Sem.run,h]
 try (split<;>simp_all)
 try (cases o<;>simp_all [Sem.run])
def HR.j8{σ:Sg}{h:H}{w:World}(hr:HR σ h w){id:Nat}{p:sW}{o o':AO}{ob:Obj}(ho:h.aR.get id=some o)(hc:l7 o=false)(hc':l7 o'=false)(hp:σ id=some p)
 (hor:OR σ o' p (some ob)):HR σ (h.set id o') { w with heap:=w.heap.setIfInBounds p.b ob }/\Ext σ σ h (h.set id o') w { w with heap:=w.heap.setIfInBounds p.b ob }:=by
 have hlt:=hr.lt ho hp;refine hr.update (o':=o') ho hp ?_ rfl ?_ ?_ ?_ (by simp) rfl rfl rfl (dR _ _).1 ?_ (λcs f e=>by subst e;simp[l7] at hc') (λcs e=>by subst e;simp[l7] at hc)
 ·intro j x hx;simp only[H.set,dH] at hx;split at hx
  ·rename_i e;cases hx;exact .inl ⟨e,rfl⟩
  ·rename_i hne;refine .inr ⟨hne,hx,?_⟩;intro q hq hb
   rcases hr.sep j id x o q p hne hx ho hq hp hb with⟨cs,cs',f,e1,e2⟩ | ⟨cs,cs',e1,e2⟩<;>(rw[e2] at hc;simp[l7] at hc)
 ·intro i cs f hi;simp only[H.set,dH] at hi;split at hi
  ·cases hi;simp[l7] at hc'
  ·exact hr.cg i cs f hi
 ·simp only[af];simp only[if_true,hlt];exact hor
 ·intro b hb;simp only[af];rw[un (λe=>hb e.symm)]
 ·intro j hj hjn;have:=dR h.low id;simp only[H.set] at hj ⊢;rw[bm _ _ (by omega)]
def HR.map{σ:Sg}{h:H}{w:World}(hr:HR σ h w){id:Nat}{p:sW}{es:List (AV×AV×Nat)}{c:Nat}(hm:h.mapOf id=some (es,c))(hp:σ id=some p):
 h.aR.get id=some (.map es c)/\∃es':Array MapEntry,w.heap[p.b]?=some (.map es' c)/\EL σ es es'.toList:=by
 unfold H.mapOf at hm;split at hm
 ·rename_i es0 c0 ho;simp only[Option.some.injEq,Prod.mk.injEq] at hm;obtain⟨rfl,rfl⟩:=hm;obtain⟨q,hq,es',h1,h2,h3⟩:=hr.obj id _ ho;rw[hp] at hq;cases hq;exact⟨ho,es',h1,by simpa using h2,λi e m he hm=>h3 i e m he (by simpa using hm)⟩
 ·simp at hm
def EL.get{σ:Sg}{es:List (AV×AV×Nat)}{l:List MapEntry}(h:EL σ es l){i:Nat}{e:AV×AV×Nat}(he:es[i]?=some e):∃m,l[i]?=some m/\ER σ e m:=by
 have hi:i<es.length:=by
  rcases a5 i es.length with h | h
  ·exact h
  ·simp[al h] at he
 have hl:i<l.length:=h.1▸hi;exact⟨l[i],ac hl,h.2 i e _ he (ac hl)⟩
def EL.append{σ:Sg}{es fs:List (AV×AV×Nat)}{l k:List MapEntry}(h:EL σ es l)(g:EL σ fs k):EL σ (es++fs) (l++k):=by
 refine⟨by simp[h.1,g.1],?_⟩;intro i x y hx hy;rw[List.getElem?_append] at hx hy;have e:=h.1;by_cases hi:i<es.length
 ·rw[ul hi] at hx;rw[ul (by omega)] at hy;exact h.2 i x y hx hy
 ·rw[un hi] at hx;rw[un (by omega),<-e] at hy;exact g.2 _ x y hx hy
def EL.one{σ:Sg}{e:AV×AV×Nat}{m:MapEntry}(h:ER σ e m):EL σ [e] [m]:=
 ⟨rfl,λi x y hx hy=>by
  cases i with
  | zero=>simp at hx hy;subst hx;subst hy;exact h
  | succ i=>simp at hx⟩
def ug(x:AV×AV×Nat):∀(es:List (AV×AV×Nat)) (i:Nat),(setAt x es i).length=es.length
 | [],i=>by simp[setAt]
 | e::es,0=>by simp[setAt]
 | e::es,i+1=>by simp[setAt,ug x es i]
def CB(x:AV×AV×Nat):∀(es:List (AV×AV×Nat)) (i j:Nat),i<es.length->(setAt x es i)[j]?=if j=i then some x else es[j]?
 | [],i,j,h=>by simp at h
 | e::es,0,j,h=>by cases j<;>simp[setAt]
 | e::es,i+1,j,h=>by
  cases j with
  | zero=>simp[setAt]
  | succ j=>simp only[setAt,aj,CB x es i j (by simpa using h)];by_cases hj:j=i<;>simp[hj]
def EL.set{σ:Sg}{es:List (AV×AV×Nat)}{l:Array MapEntry}(h:EL σ es l.toList){i:Nat}{x:AV×AV×Nat}{f:MapEntry->MapEntry}(hi:i<es.length)(hf:∀m,l.toList[i]?=some m->ER σ x (f m)):
 EL σ (setAt x es i) (l.modify i f).toList:=by
 refine⟨by rw[ug];have:=h.1;simpa using this,?_⟩;intro j e m he hm;rw[CB x es i j hi] at he
 have hm':(l.modify i f)[j]?=some m:=by rw[<-Array.getElem?_toList];exact hm
 rw[Array.getElem?_modify] at hm';by_cases hj:j=i
 ·subst hj;rw[ul rfl] at he hm';simp only[Option.some.injEq] at he;subst he
  cases hl:l[j]? with
  | none=>simp[hl] at hm'
  | some m0=>
   simp only[hl,ad,Option.some.injEq] at hm';subst hm';exact hf m0 (by simpa using hl)
 ·rw[un hj] at he;rw[un (λe=>hj e.symm)] at hm';exact h.2 j e m he (by simpa using hm')
def lu{P:Program}{t k e:TypeId}(h:cW P t=some (k,e)):P.underlying t=some (.map k e):=by
 unfold cW at h;split at h
 ·rename_i h1;simp only[Option.some.injEq,Prod.mk.injEq] at h;obtain⟨rfl,rfl⟩:=h;exact h1
 ·simp at h
def Dn{P:Program}{t:TypeId}{k:AV}(h:tG P t k=true):∃d,P.underlying t=some d:=by
 simp only[tG,Fv] at h
 cases hu:P.underlying t with
 | none=>simp[hu] at h
 | some d=>exact⟨d,rfl⟩
def F7{P:Program}{σ:Sg}{h:H}{w:World}(hr:HR σ h w){t:TypeId}{x k r:AV}{v u:Value}{ok:Bool}(hl:rm P h t x k ok=some r)(hv:V σ x v)(hk:V σ k u):
 ∃z,(Instr.lookup t v u ok).run P w=.ok z w/\V σ r z:=by
 unfold rm at hl
 cases hm:cW P t with
 | none=>simp[hm] at hl
 | some q=>
  obtain⟨kt,et⟩:=q;simp only[hm,aa] at hl;obtain⟨hka,hl9⟩:=aL hl;clear hl;have hu:=lu hm;obtain⟨kd,hkd⟩:=Dn hka
  have main:∀(es:List (AV×AV×Nat)) (es':Array MapEntry),EL σ es es'.toList->
   (∀(r0:Option (Nat×Value)) (z:Value) (b:Bool),(Instr.findKey kt u es'.toList).run P w=.ok r0 w->
    (match r0 with | some q=>z=q.2/\b=true | none=>(zeroValue et).run P w=.ok z w/\b=false)->
    (Instr.lookup t v u ok).run P w=.ok (if ok then .tuple #[z,.bool b] else z) w)->
   ((
    gX P kt k es 0).bind λr=>
    ((
     match r with
     | some i=>(es[i]?).map λe=>(e.2.1,true)
     | none=>(du P et).map λz=>(z,false):Option (AV×Bool))).map λ(v,b)=>cond ok (AV.bE [v,.bool b]) v)=some r->
   ∃z,(Instr.lookup t v u ok).run P w=.ok z w/\V σ r z:=by
   intro es es' hel hget h
   cases hf:gX P kt k es 0 with
   | none=>simp[hf] at h
   | some r0=>
    simp only[hf,aa] at h;have hfind:=nz (w:=w) hkd hk hf hel
    have fin:∀(a:AV) (b:Bool) (z:Value),V σ a z->(cond ok (AV.bE [a,.bool b]) a)=r->V σ r (if ok then .tuple #[z,.bool b] else z):=by
     intro a b z hz e;subst e;cases ok
     ·exact hz
     ·exact .gg (.cons hz (.cons (.bool b) .nil))
    cases r0 with
    | some i=>
     cases he:es[i]? with
     | none=>simp[he] at h
     | some e=>
      simp only[he,ad,Option.some.injEq] at h;obtain⟨m,hm1,hm2⟩:=hel.get he;refine⟨_,hget _ m.val true hfind ?_,fin _ _ _ hm2.2.1 h⟩;simp[found,hm1]
    | none=>
     cases hz:du P et with
     | none=>simp[hz] at h
     | some z=>
      simp only[hz,ad,Option.some.injEq] at h;obtain⟨zv,hzr,hzV,_⟩:=iI (w:=w) (σ:=σ) hz;exact⟨_,hget _ zv false hfind ⟨hzr,rfl⟩,fin _ _ _ hzV h⟩
  split at hl9
  ·cases hv;refine main [] #[] ⟨rfl,λi e m he _=>by simp at he⟩ ?_ hl9;intro r0 z b hf hz;simp only[Instr.lookup,Sem.run_bind,aN hu,Result.andThen_ok,Sem.run_pure,jR hka hk,hf]
   cases r0 with
   | some q=>obtain⟨rfl,rfl⟩:=hz;rfl
   | none=>obtain⟨hz,rfl⟩:=hz;simp only[Sem.run_bind,hz,Result.andThen_ok,Sem.run_pure]
  ·rename_i id
   cases hv with
   | map hp=>
    cases hmo:h.mapOf id with
    | none=>simp[hmo] at hl9
    | some q=>
     obtain⟨es,c⟩:=q;simp only[hmo,ad,aa] at hl9;obtain⟨_,es',h1,h2⟩:=hr.map hmo hp;refine main es es' h2 ?_ hl9;intro r0 z b hf hz;simp only[Instr.lookup,Sem.run_bind,aN hu,Result.andThen_ok,cA h1 (by simp),Sem.run_pure,jR hka hk,hf]
     cases r0 with
     | some q=>obtain⟨rfl,rfl⟩:=hz;rfl
     | none=>obtain⟨hz,rfl⟩:=hz;simp only[Sem.run_bind,hz,Result.andThen_ok,Sem.run_pure]
  ·simp at hl9
def yJ{es:List (AV×AV×Nat)}{l:List MapEntry}{σ:Sg}(hel:EL σ es l){i:Nat}{e:AV×AV×Nat}(he:es[i]?=some e):∃m,l[i]?=some m/\ER σ e m/\found (some i) 0 l=some (i,m.val):=by
 obtain⟨m,h1,h2⟩:=hel.get he;exact⟨m,h1,h2,by simp[found,h1]⟩
def kP{α:Type}{l:List α}{i:Nat}{x:α}(h:l[i]?=some x):i<l.length:=by
 rcases a5 i l.length with h' | h'
 ·exact h'
 ·simp[al h'] at h
def uQ{σ:Sg}{es:List (AV×AV×Nat)}{es':Array MapEntry}{c:Nat}{p:sW}(h:EL σ es es'.toList):OR σ (.map es c) p (some (.map es' c)):=
 ⟨es',rfl,by have:=h.1;simpa using this,λi e m he hm=>h.2 i e m he (by simpa using hm)⟩
def qB{P:Program}{σ:Sg}{h h':H}{w:World}(hr:HR σ h w){t:TypeId}{x k a:AV}{v u z:Value}(hl:kQ P h t x k a=some h')(hv:V σ x v)(hk:V σ k u)(ha:V σ a z):
 ∃w',(Instr.mapUpdate t v u z).run P w=.ok () w'/\HR σ h' w'/\Ext σ σ h h' w w':=by
 unfold kQ at hl
 cases hm:cW P t with
 | none=>simp[hm] at hl
 | some q=>
  obtain⟨kt,et⟩:=q;simp only[hm,aa] at hl;obtain⟨hka,hl9⟩:=aL hl;clear hl;have hu:=lu hm;obtain⟨kd,hkd⟩:=Dn hka;split at hl9
  ·rename_i id
   cases hv with
   | @map _ p hp=>
    cases hmo:h.mapOf id with
    | none=>simp[hmo] at hl9
    | some q=>
     obtain⟨es,c⟩:=q;simp only[hmo,aa] at hl9;obtain⟨ho,es',h1,h2⟩:=hr.map hmo hp
     cases hf:gX P kt k es 0 with
     | none=>simp[hf] at hl9
     | some r0=>
      simp only[hf,aa] at hl9;have hfind:=nz (w:=w) hkd hk hf h2
      cases r0 with
      | some i=>
       cases he:es[i]? with
       | none=>simp[he] at hl9
       | some e=>
        simp only[he,aa] at hl9;obtain⟨hst,hl9⟩:=aL hl9;simp only[Option.some.injEq] at hl9;subst hl9;obtain⟨m,hm1,hm2,hfo⟩:=yJ h2 he
        have hm1':es'[i]?=some m:=by simpa using hm1
        have hst':=CD (P:=P) (w:=w) hst hk hm2.1
        have hel:EL σ (setAt (k,a,e.2.2) es i) (es'.modify i λm=>{ m with key:=u,val:=z }).toList:=
         h2.set (kP he) (λm' hm'=>by rw[hm1] at hm';cases hm';exact⟨hk,ha,hm2.2.2⟩)
        obtain⟨g1,g2⟩:=hr.j8 ho rfl rfl hp (uQ (c:=c) (p:=p) hel);refine⟨_,?_,g1,g2⟩;simp only[Instr.mapUpdate,Sem.run_bind,aN hu,Result.andThen_ok,cA h1 (by simp),jR hka hk,hfind,hfo,hm1',ad,a0,hst'];exact eo h1 (by simp)
      | none=>
       simp only[Option.some.injEq] at hl9;subst hl9
       have hel:EL σ (es++[(k,a,c)]) (es'.push { key:=u,val:=z,born:=c }).toList:=by
        rw[ax];exact h2.append (.one ⟨hk,ha,rfl⟩)
       obtain⟨g1,g2⟩:=hr.j8 ho rfl rfl hp (uQ (c:=c+1) (p:=p) hel);refine⟨_,?_,g1,g2⟩;simp only[Instr.mapUpdate,Sem.run_bind,aN hu,Result.andThen_ok,cA h1 (by simp),jR hka hk,hfind,found];exact eo h1 (by simp)
  ·simp at hl9
def A8{P:Program}{σ:Sg}{h h':H}{w:World}(hr:HR σ h w){t:TypeId}{x k r:AV}{v u:Value}(hl:mA P h t x k=some (r,h'))(hv:V σ x v)(hk:V σ k u):
 ∃z w',(Instr.mapEntry t v u).run P w=.ok z w'/\V σ r z/\HR σ h' w'/\Ext σ σ h h' w w':=by
 unfold mA at hl
 cases hm:cW P t with
 | none=>simp[hm] at hl
 | some q=>
  obtain⟨kt,et⟩:=q;simp only[hm,aa] at hl;obtain⟨hka,hl9⟩:=aL hl;clear hl;have hu:=lu hm;obtain⟨kd,hkd⟩:=Dn hka;split at hl9
  ·rename_i id
   cases hv with
   | @map _ p hp=>
    cases hmo:h.mapOf id with
    | none=>simp[hmo] at hl9
    | some q=>
     obtain⟨es,c⟩:=q;simp only[hmo,aa] at hl9;obtain⟨ho,es',h1,h2⟩:=hr.map hmo hp
     cases hf:gX P kt k es 0 with
     | none=>simp[hf] at hl9
     | some r0=>
      simp only[hf,aa] at hl9;have hfind:=nz (w:=w) hkd hk hf h2
      cases r0 with
      | some i=>
       cases he:es[i]? with
       | none=>simp[he] at hl9
       | some e=>
        simp only[he,aa] at hl9;obtain⟨hst,hl9⟩:=aL hl9;simp only[Option.some.injEq,Prod.mk.injEq] at hl9;obtain⟨rfl,rfl⟩:=hl9;obtain⟨m,hm1,hm2,hfo⟩:=yJ h2 he
        have hm1':es'[i]?=some m:=by simpa using hm1
        have hst':=CD (P:=P) (w:=w) hst hk hm2.1
        have hel:EL σ (setAt (k,e.2.1,e.2.2) es i) (es'.modify i λm=>{ m with key:=u }).toList:=
         h2.set (kP he) (λm' hm'=>by rw[hm1] at hm';cases hm';exact⟨hk,hm2.2.1,hm2.2.2⟩)
        obtain⟨g1,g2⟩:=hr.j8 ho rfl rfl hp (uQ (c:=c) (p:=p) hel);refine⟨.tuple #[m.val,goInt m.born],_,?_,?_,g1,g2⟩
        ·simp only[Instr.mapEntry,Sem.run_bind,aN hu,Result.andThen_ok,cA h1 (by simp),jR hka hk,hfind,hfo,hm1',ad,a0,hst',eo h1 (by simp),Sem.run_pure]
        ·rw[hm2.2.2];exact .gg (.cons hm2.2.1 (.cons (.int _ _) .nil))
      | none=>
       cases hz:du P et with
       | none=>simp[hz] at hl9
       | some z=>
        simp only[hz,ad,Option.some.injEq,Prod.mk.injEq] at hl9;obtain⟨rfl,rfl⟩:=hl9;obtain⟨zv,hzr,hzV,_⟩:=iI (w:=w) (σ:=σ) hz
        have hel:EL σ (es++[(k,z,c)]) (es'.push { key:=u,val:=zv,born:=c }).toList:=by
         rw[ax];exact h2.append (.one ⟨hk,hzV,rfl⟩)
        obtain⟨g1,g2⟩:=hr.j8 ho rfl rfl hp (uQ (c:=c+1) (p:=p) hel);refine⟨.tuple #[zv,goInt c],_,?_,.gg (.cons hzV (.cons (.int _ _) .nil)),g1,g2⟩;simp only[Instr.mapEntry,Sem.run_bind,aN hu,Result.andThen_ok,cA h1 (by simp),jR hka hk,hfind,found,hzr,eo h1 (by simp),Sem.run_pure]
  ·simp at hl9
def sj{b:Nat}:∀(es:List (AV×AV×Nat)) (k i:Nat),iP b es k=some i->k<=i/\i<k+es.length/\(∃e,es[i-k]?=some e/\e.2.2=b)/\∀j,j<i-k->∀e,es[j]?=some e->e.2.2≠b
 | [],k,i,h=>by simp[iP] at h
 | e::es,k,i,h=>by
  simp only[iP] at h;cases hb:Nat.beq e.2.2 b
  ·rw[hb,an] at h;obtain⟨h1,h2,⟨x,h3,h4⟩,h5⟩:=sj es (k+1) i h;refine⟨by omega,by simp;omega,⟨x,?_,h4⟩,?_⟩
   ·rw[show i-k=(i-(k+1))+1 by omega,aj];exact h3
   ·intro j hj y hy
    cases j with
    | zero=>simp at hy;subst hy;exact iB hb
    | succ j=>exact h5 j (by omega) y (by simpa using hy)
  ·rw[hb,ai] at h;simp only[Option.some.injEq] at h;subst h;exact⟨ag _,by simp,⟨e,by simp,cU hb⟩,λj hj=>by omega⟩
def Ir{b i:Nat}{σ:Sg}{es:List (AV×AV×Nat)}{l:Array MapEntry}(h:EL σ es l.toList)(hb:iP b es 0=some i):l.findIdx? (λe=>(e.born:Int)==(b:Int))=some i:=by
 obtain⟨h1,h2,⟨x,h3,h4⟩,h5⟩:=sj es 0 i hb;obtain⟨m,hm1,hm2⟩:=h.get (i:=i) (by simpa using h3)
 have hi:i<l.size:=by have:=kP hm1;simpa using this
 have hm1':l[i]=m:=by
  have:l[i]?=some m:=by simpa using hm1
  rw[Array.getElem?_eq_getElem hi] at this;simpa using this
 rw[Array.findIdx?_eq_some_iff_getElem];refine⟨hi,?_,?_⟩
 ·rw[hm1'];have:=hm2.2.2;simp;omega
 ·intro j hj
  have hjl:j<es.length:=by have:=h.1;simp at this;omega
  have:=h5 j (by omega) _ (ac hjl);have hr:=(h.2 j _ (l[j]'(by omega)) (ac hjl) (by simp)).2.2;simp;omega
def xl{P:Program}{σ:Sg}{h h':H}{w:World}(hr:HR σ h w){t:TypeId}{x s a:AV}{v u z:Value}(hl:lg h x s a=some h')(hv:V σ x v)(hs:V σ s u)(ha:V σ a z):
 ∃w',(Instr.entryStore t v u z).run P w=.ok () w'/\HR σ h' w'/\Ext σ σ h h' w w':=by
 unfold lg at hl;split at hl
 ·rename_i id
  cases hv with
  | @map _ p hp=>
   cases hmo:h.mapOf id with
   | none=>simp[hmo] at hl
   | some q=>
    obtain⟨es,c⟩:=q;simp only[hmo,aa] at hl;obtain⟨ho,es',h1,h2⟩:=hr.map hmo hp
    cases hn:di s with
    | none=>simp[hn] at hl
    | some b=>
     simp only[hn,aa] at hl;obtain⟨k,rfl,hk⟩:=kR (P:=P) (w:=w) hn hs
     cases hb:iP b es 0 with
     | none=>simp[hb] at hl
     | some i=>
      simp only[hb,aa] at hl
      cases he:es[i]? with
      | none=>simp[he] at hl
      | some e=>
       simp only[he,ad,Option.some.injEq] at hl;subst hl;obtain⟨m,hm1,hm2⟩:=h2.get he
       have hel:EL σ (setAt (e.1,a,e.2.2) es i) (es'.modify i λm=>{ m with val:=z }).toList:=
        h2.set (kP he) (λm' hm'=>by rw[hm1] at hm';cases hm';exact⟨hm2.1,ha,hm2.2.2⟩)
       obtain⟨g1,g2⟩:=hr.j8 ho rfl rfl hp (uQ (c:=c) (p:=p) hel);refine⟨_,?_,g1,g2⟩;simp only[Instr.entryStore,Sem.run_bind,Sem.run_pure,Result.andThen_ok,cA h1 (by simp),asInt,hk,Ir h2 hb];exact eo h1 (by simp)
 ·simp at hl
end Go.Ev
