/- Lemmas of this claim, each with its conditions. -/
import Derived.Test.YtchdmmkclcnmnaaGreatA11
set_option linter.all false
open Option (bind_eq_some_iff)
open Nat (beq ble blt)
open List (map_nil mem_map)
open Option renaming bind_some -> aa, map_some -> ac
open Nat renaming beq_refl -> ad, le_of_ble_eq_true -> ap, zero_mul -> a6, min_eq_left -> a8, zero_add -> bc
open Bool renaming and_self -> ag, not_false -> aj, and_eq_true -> ay, true_or -> a9
open List renaming eraseIdx_cons_succ -> al, map_cons -> ax, length_map -> a0, map_append -> a3, getElem?_map -> a4, take_zero -> a5, eraseIdx_nil -> a7, drop_zero -> ba, all_cons -> bb
namespace Go.Ev
section
variable {θ θ':Nat->Loc} {ρ ρ0:kg} {P:Program}
def Kp{h0:En}{h:H}{S:List SO}(hR:RS θ ρ0 ρ h0 h S){v:SV}{x:AV}(hv:VS θ ρ v x){e:List AV×List SV}(he:sy S v=some e):
 (x=.map none/\e=([],[]))\/∃id l c,x=.map (some id)/\h.mapOf id=some (l,c)/\l.map (·.1)=e.1/\c7 θ ρ e.2 (l.map (·.2.1)):=by
 unfold sy at he;split at he
 ·rename_i o;rw[VS] at hv;subst hv;split at he
  ·rename_i ks vs b hS;cases he;obtain⟨_,l,c,q1,⟨q2,_⟩,q3⟩:=hR.obj o _ hS (λh=>by cases h);exact .inr ⟨_,l,c,rfl,by unfold H.mapOf;rw[q1],q2,q3⟩
  ·cases he
 ·cases he;rw[VS,GS] at hv;obtain⟨id,l,c,rfl,h2,h3,h4⟩:=hv;exact .inr ⟨id,l,c,rfl,by unfold H.mapOf;rw[(hR.row id _ h2).2.1],h3.1,h4.vs⟩
 ·cases he;rw[VS] at hv;subst hv;exact .inl ⟨rfl,rfl⟩
 ·cases he
def ID{h0:En}{h:H}{S:List SO}(hR:RS θ ρ0 ρ h0 h S){t:TypeId}{v k w:SV}{x y:AV}{ok:Bool}(hv:VS θ ρ v x)(hk:VS θ ρ k y)(hl:dW P S t v k ok=some w):∃z,rm P h t x y ok=some z/\VS θ ρ w z:=by
 unfold dW at hl;obtain⟨⟨kt,et⟩,hm,hl⟩:=bind_eq_some_iff.1 hl;obtain⟨ka,hka,hl⟩:=bind_eq_some_iff.1 hl;have:=gZ hk hka;subst this;obtain⟨hkey,hl⟩:=aL hl;obtain⟨⟨ks,vs⟩,hent,hl⟩:=bind_eq_some_iff.1 hl;obtain⟨r,hf,hl⟩:=bind_eq_some_iff.1 hl;obtain⟨⟨u,b⟩,hu,rfl⟩:=aq hl;unfold rm;rw[hm,aa];simp only;rw[hkey,ai]
 have fin:∀z:AV,VS θ ρ u z->VS θ ρ (cond ok (.bE [u,.a (.bool b)]) u) (cond ok (.bE [z,.bool b]) z):=by
  intro z hz;cases ok
  ·exact hz
  ·rw[ai,ai,VS];refine⟨_,rfl,?_⟩;rw[aK];refine⟨z,_,rfl,hz,?_⟩;rw[aK];exact⟨_,[],rfl,by rw[VS],by rw[aQ]⟩
 rcases Kp hR hv hent with⟨rfl,he⟩ | ⟨id,l,c,rfl,h1,h2,h3⟩
 ·cases he;simp only[qn,Option.some.injEq] at hf;subst hf;obtain⟨z,hz,hu⟩:=aq hu;cases hu;simp only[aa,gX,hz,ac];exact⟨_,rfl,fin _ (Aq z)⟩
 ·simp only at h2 h3 hf;simp only[h1,ac,aa];rw[oF,h2,hf,aa]
  cases r with
  | none=>
   obtain⟨z,hz,hu⟩:=aq hu;cases hu;simp only[hz,ac];exact⟨_,rfl,fin _ (Aq z)⟩
  | some i=>
   obtain⟨e,he,hu⟩:=aq hu;cases hu;obtain⟨z,hz,kz⟩:=h3.get he;rw[a4] at hz;obtain⟨e3,he3,rfl⟩:=aq hz;simp only[he3,ac];exact⟨_,rfl,fin _ kz⟩
def iF{α:Type}(g:AV×AV×Nat->α)(x:AV×AV×Nat):∀(l:List (AV×AV×Nat)) (i:Nat),(setAt x l i).map g=(l.map g).set i (g x)
 | [],i=>by cases i<;>rfl
 | e::l,0=>rfl
 | e::l,i+1=>by
  rw[setAt,ax,ax,List.set_cons_succ,iF g x l i]
def nV.snoc{l:List (AV×AV×Nat)}{c:Nat}(h:nV l c)(k v:AV):nV (l++[(k,v,c)]) (c+1):=by
 refine⟨?_,λe he=>?_⟩
 ·rw[a3,List.nodup_append];refine⟨h.1,by simp,?_⟩;intro a ha b hb;obtain⟨e,he,rfl⟩:=mem_map.1 ha;simp only[ax,map_nil,List.mem_singleton] at hb;subst hb;exact Nat.ne_of_lt (h.2 e he)
 ·rcases List.mem_append.1 he with he | he
  ·exact Nat.lt_succ_of_lt (h.2 e he)
  ·rw[List.mem_singleton.1 he];exact Nat.lt_succ_self _
def nV.DJ{l l':List (AV×AV×Nat)}{c:Nat}(h:nV l c)(hb:l'.map (·.2.2)=l.map (·.2.2)):nV l' c:=by
 refine⟨by rw[hb];exact h.1,λe he=>?_⟩;have:e.2.2∈l'.map (·.2.2):=List.mem_map_of_mem he;rw[hb] at this;obtain⟨e',he',q⟩:=mem_map.1 this;rw[<-q];exact h.2 e' he'
def za{h0:En}{h:H}{S S':List SO}(hR:RS θ ρ0 ρ h0 h S){t:TypeId}{v k w:SV}{x y z:AV}(hv:VS θ ρ v x)(hk:VS θ ρ k y)(hw:VS θ ρ w z)(hl:fv P S t v k w=some S'):∃h',kQ P h t x y z=some h'/\RS θ ρ0 ρ h0 h' S':=by
 unfold fv at hl;obtain⟨⟨kt,et⟩,hm,hl⟩:=bind_eq_some_iff.1 hl;obtain⟨ka,hka,hl⟩:=bind_eq_some_iff.1 hl;have:=gZ hk hka;subst this;obtain⟨hkey,hl⟩:=aL hl;unfold kQ;rw[hm,aa];simp only;rw[hkey,ai]
 cases v with
 | map o=>
  rw[VS] at hv;subst hv;simp only at hl ⊢;split at hl
  ·rename_i ks vs b hS;obtain⟨_,l,c,q1,⟨q2,qb,qp⟩,q3⟩:=hR.obj o _ hS (λh=>by cases h)
   have hmo:h.mapOf (θ o).id=some (l,c):=by unfold H.mapOf;rw[q1]
   obtain⟨r,hf,hl⟩:=bind_eq_some_iff.1 hl;rw[hmo,aa];simp only;rw[oF,q2,hf,aa]
   cases r with
   | none=>
    simp only at hl ⊢;cases hl;refine⟨_,rfl,hR.Mb hS ?_ ?_⟩
    ·refine⟨by rw[a3,q2];rfl,qb.snoc _ _,λp hp=>?_⟩;obtain⟨p0,hp0,rfl⟩:=aq hp;obtain⟨e1,e2⟩:=qp p0 hp0;exact⟨by rw[a3,e1,e2];rfl,by rw[e2]⟩
    ·rw[a3];refine q3.app ?_;rw[ax,map_nil,aK];exact⟨_,[],rfl,hw,by rw[aQ]⟩
   | some i=>
    simp only at hl ⊢;obtain⟨k0,hk0,hl⟩:=bind_eq_some_iff.1 hl;obtain⟨hst,hl⟩:=aL hl;cases hl;rw[<-q2,a4] at hk0;obtain⟨e3,he3,rfl⟩:=aq hk0;rw[he3,aa,hst,ai];refine⟨_,rfl,hR.Mb hS ?_ ?_⟩
    ·have hb:(setAt (y,z,e3.2.2) l i).map (·.2.2)=l.map (·.2.2):=by
      rw[iF];apply List.ext_getElem?;intro j;rw[List.getElem?_set];split
      ·rename_i e;subst e;split
       ·rw[a4,he3];rfl
       ·rename_i hl;rw[a0] at hl;rw[List.getElem?_eq_none (by rw[a0];omega)]
      ·rfl
     exact⟨by rw[iF,q2],qb.DJ hb,λp hp=>by rw[hb];exact qp p hp⟩
    ·rw[iF];exact q3.set i hw
  ·cases hl
 | _=>simp at hl
def c7.erase:∀{ds:List SV} {aS:List AV} (i:Nat),c7 θ ρ ds aS->c7 θ ρ (ds.eraseIdx i) (aS.eraseIdx i)
 | [],aS,i,h=>by rw[aQ] at h;subst h;rw[a7,a7,aQ]
 | d::ds,aS,i,h=>by
  rw[aK] at h;obtain⟨a,r,rfl,h1,h2⟩:=h
  cases i with
  | zero=>exact h2
  | succ i=>rw[al,al,aK];exact⟨a,_,rfl,h1,c7.erase i h2⟩
def fi{α β:Type}(g:α->β):∀(l:List α) (i:Nat),(l.eraseIdx i).map g=(l.map g).eraseIdx i
 | [],i=>by simp
 | a::l,0=>rfl
 | a::l,i+1=>by rw[al,ax,ax,al,fi g l i]
def PY{h0:En}{h:H}{S S':List SO}(hR:RS θ ρ0 ρ h0 h S){t:TypeId}{v k:SV}{x y:AV}(hv:VS θ ρ v x)(hk:VS θ ρ k y)(hl:LA P S t v k=some S'):∃h',tf P h t x y=some (.bE [],h')/\RS θ ρ0 ρ h0 h' S':=by
 unfold LA at hl;obtain⟨⟨kt,et⟩,hm,hl⟩:=bind_eq_some_iff.1 hl;obtain⟨ka,hka,hl⟩:=bind_eq_some_iff.1 hl;have:=gZ hk hka;subst this;obtain⟨hkey,hl⟩:=aL hl;unfold tf;rw[hm,aa];simp only;rw[hkey,ai]
 cases v with
 | map o=>
  rw[VS] at hv;subst hv;simp only at hl ⊢;split at hl
  ·rename_i ks vs b hS;obtain⟨_,l,c,q1,⟨q2,qb,qp⟩,q3⟩:=hR.obj o _ hS (λh=>by cases h)
   have hmo:h.mapOf (θ o).id=some (l,c):=by unfold H.mapOf;rw[q1]
   obtain⟨r,hf,rfl⟩:=aq hl;rw[hmo,aa];simp only;rw[oF,q2,hf,ac]
   cases r with
   | none=>exact⟨_,rfl,hR⟩
   | some i=>
    refine⟨_,rfl,hR.Mb hS ?_ ?_⟩
    ·refine⟨by rw[fi,q2],⟨by rw[fi];exact qb.1.sublist (List.eraseIdx_sublist _ _),λe he=>qb.2 e (List.mem_of_mem_eraseIdx he)⟩,λp hp=>?_⟩;obtain⟨p0,hp0,rfl⟩:=aq hp;obtain⟨e1,e2⟩:=qp p0 hp0;exact⟨by rw[fi,e1],e2⟩
    ·rw[fi];exact q3.erase i
  ·cases hl
 | _=>simp at hl
def Qa{h0:En}{h:H}{S:List SO}(hR:RS θ ρ0 ρ h0 h S){t:TypeId}{v:SV}{x:AV}{n:Nat}(hv:VS θ ρ v x)(hl:pX P S t v=some n):F3 P h t x=some (.int .i64 (n:Int)):=by
 unfold pX at hl;unfold F3;split at hl
 ·rename_i s hk;rw[yZ hk];rw[VS] at hv;subst hv;cases hl;rfl
 ·rename_i n' _ cs hk;obtain⟨e,hu⟩:=pz hk;rw[hu];rw[VS,GS] at hv;cases hl
  rcases hv with⟨rfl,_,o,e',c,rfl,_,_⟩ | ⟨id,off,cap,row,rfl,_⟩<;>rfl
 ·rename_i o n' _ c hk;obtain⟨e,hu⟩:=pz hk;rw[hu];rw[VS] at hv;subst hv;cases hl;rfl
 ·rename_i n' _ c hk;obtain⟨e,hu⟩:=pz hk;rw[hu];rw[VS] at hv;subst hv;cases hl;rfl
 ·rename_i hk;obtain⟨kt,et,hu⟩:=N4 hk;rw[hu];obtain⟨e,he,rfl⟩:=aq hl
  rcases Kp hR hv he with⟨rfl,rfl⟩ | ⟨id,l,c,rfl,h1,h2,h3⟩
  ·rfl
  ·simp only[h1,ac,<-h2,a0];rfl
 ·rename_i o off n' _ c hk;obtain⟨e,hu⟩:=pz hk;rw[hu];rw[VS] at hv;subst hv;cases hl;rfl
 ·rename_i e hk;obtain⟨e,hu⟩:=pz hk;rw[hu];rw[VS] at hv;obtain⟨o,e',rfl,_⟩:=hv;cases hl;rfl
 ·cases hl
def GP{h0:En}{h:H}{S:List SO}(hR:RS θ ρ0 ρ h0 h S){s m:Nat}{v:SV}{x:AV}{new:List SV}(hv:VS θ ρ v x)(hl:nM S s v=some (m,new)):
 ∃o es c xs,x=.slice o m es c/\(beq es s||beq m 0)=true/\cJ h o m s=some xs/\c7 θ ρ new xs:=by
 unfold nM at hl;split at hl
 ·rename_i n e cs;obtain⟨hb,hl⟩:=cy hl;cases hl;subst hb;rw[VS,GS] at hv
  rcases hv with⟨rfl,rfl,o,e',c,rfl,_,_⟩ | ⟨id,off,cap,row,rfl,h2,h3,h4⟩
  ·refine⟨o,e',c,[],rfl,by simp,?_,by rw[aQ]⟩;unfold cJ
   cases o with
   | none=>rfl
   | some q=>rfl
  ·refine⟨_,e,cap,(row.drop off).take (m*e),rfl,by rw[ad,a9],?_,h4.vs⟩;unfold cJ;simp only;cases hm:beq m 0
   ·rw[an,mr,GO hR h2];simp only[aa,lG];rw[eN h3,ai]
   ·have:=cU hm;subst this;rw[ai,a6,a5]
 ·rename_i o n e c;split at hl
  ·rename_i cs hS;obtain⟨⟨hes,hle⟩,hl⟩:=cy hl;cases hl;subst hes;rw[VS] at hv;subst hv;obtain⟨_,aS,q1,q2,_⟩:=hR.obj o _ hS (λh=>by cases h);refine⟨_,e,c,aS.take (m*e),rfl,by rw[ad,a9],?_,q2.take _⟩;unfold cJ;simp only;cases hm:beq m 0
   ·rw[an,mr];unfold rT;rw[q1];simp only[aa,lG];show lG aS 0 (m*e)=_;unfold lG;rw[eN (show 0+m*e<=aS.length by rw[q2.length];omega),ai,ba]
   ·have:=cU hm;subst this;rw[ai,a6,a5]
  ·cases hl
 ·cases hl;rw[VS] at hv;subst hv;exact⟨none,0,some 0,[],rfl,by simp,rfl,by rw[aQ]⟩
 ·rename_i o off n e c;split at hl
  ·rename_i cs hS;obtain⟨⟨hes,hle⟩,hl⟩:=cy hl;cases hl;subst hes;rw[VS] at hv;subst hv;obtain⟨_,aS,q1,q2,_⟩:=hR.obj o _ hS (λh=>by cases h);refine⟨_,e,c,(aS.drop off).take (m*e),rfl,by rw[ad,a9],?_,(q2.drop off).take _⟩;unfold cJ;simp only;cases hm:beq m 0
   ·rw[an,mr];unfold rT;rw[q1];simp only[aa,lG];show lG aS off (m*e)=_;unfold lG;rw[eN (show off+m*e<=aS.length by rw[q2.length];omega),ai]
   ·have:=cU hm;subst this;rw[ai,a6,a5]
  ·cases hl
 ·cases hl;rw[VS] at hv;obtain⟨o,e',rfl,_⟩:=hv;refine⟨o,e',some 0,[],rfl,by simp,?_,by rw[aQ]⟩;unfold cJ
  cases o with
  | none=>rfl
  | some q=>rfl
 ·cases hl
def Gh{a b:Nat}(h:a≠b):beq a b=false:=by
 cases hb:beq a b
 ·rfl
 ·exact t8 (cU hb) h
def IN{h0:En}{h:H}{S:List SO}(hR:RS θ ρ0 ρ h0 h S){xt e:TypeId}{s m:Nat}{z:AV}{w:SV}{y:AV}{new:List SV}(hz:du P e=some z)(hzl:z.cells.length=s)(hw:VS θ ρ w y)(hl:tN P S xt s z w=some (m,new)):
 ∃xs,mq P h e s xt y=some (m,xs)/\c7 θ ρ new xs:=by
 unfold tN at hl;unfold mq;split at hl
 ·rename_i hk;obtain⟨e',hux⟩:=pz hk;obtain⟨o,es,c,xs,rfl,k1,k2,k3⟩:=GP hR hw hl;rw[hux];simp only;rw[k1,ai,k2];exact⟨xs,rfl,k3⟩
 ·obtain⟨hi,hl⟩:=aL hl;obtain⟨n,hn,hl⟩:=bind_eq_some_iff.1 hl;obtain⟨hb,hl⟩:=cy hl;cases hl;unfold isInt at hi;split at hi
  ·rename_i kk hu;rw[hu];simp only;rw[DD hw hn,aa,hz,aa,eN hb,hzl,ad,ag,ai];exact⟨_,rfl,c7.a _⟩
  ·cases hi
 ·cases hl
def Ia{h0:En}{h:H}{S S':List SO}(hR:RS θ ρ0 ρ h0 h S){st xt:TypeId}{v w r:SV}{x y:AV}{kill:Option Nat}(hv:VS θ ρ v x)(hw:VS θ ρ w y)(hl:s7 P S st xt v w=some (r,S',kill)):
 ∃z h' θ',sZ P h st xt x y=some (z,h')/\RS θ' ρ0 ρ h0 h' S'/\VS θ' ρ r z/\∀v x,VS θ ρ v x->VS θ' ρ (tH kill v) x:=by
 unfold s7 at hl;have hl2:=bind_eq_some_iff.1 hl;clear hl;obtain⟨⟨e,s⟩,hel,hl⟩:=hl2;obtain⟨hu,hs⟩:=gu hel;simp only at hu hs hl;obtain⟨i,hi,rfl⟩:=aq hs;have hl2:=bind_eq_some_iff.1 hl;clear hl;obtain⟨z,hz,hl⟩:=hl2;have hl2:=cy hl;clear hl;obtain⟨⟨b1,b2,b3⟩,hl⟩:=hl2;have hl2:=bind_eq_some_iff.1 hl;clear hl;obtain⟨⟨m,new⟩,hrow,hl⟩:=hl2;unfold pe at b3;rw[hi] at b3;simp only at b3 hl;have b2':=Gh b2;obtain⟨xs,happ,k3⟩:=IN hR hz b1 hw hrow;unfold sZ;rw[hu];by_cases hm:m=0
 ·rw[ul hm] at hl
  have hmb:beq m 0=true:=by rw[hm];rfl
  unfold E1 at hl;split at hl
  ·cases hl;have hv':=hv;rw[VS] at hv;subst hv;simp only[hi,hz,aa,b1,b2',b3,ad,eN (show 0<=1000000 by omega),aj,ag,ai,happ,hmb];exact⟨_,_,θ,rfl,hR,hv',λv x h=>h⟩
  ·obtain⟨hn,hl⟩:=cy hl;cases hl;have hv':=hv;rw[VS] at hv;subst hv;simp only[hi,hz,aa,b1,b2',b3,ad,eN hn,aj,ag,ai,happ,hmb];exact⟨_,_,θ,rfl,hR,hv',λv x h=>h⟩
  ·cases hl;have hv':=hv;rw[VS] at hv;obtain⟨o',e',rfl,_⟩:=hv;simp only[hi,hz,aa,b1,b2',b3,ad,eN (show 0<=1000000 by omega),aj,ag,ai,happ,hmb];exact⟨_,_,θ,rfl,hR,hv',λv x h=>h⟩
  ·cases hl
 ·rw[un hm] at hl;have hmb:=Gh hm;have hl2:=cy hl;clear hl;obtain⟨⟨b4,b5⟩,hl⟩:=hl2;have hone:=mn k3 b5;unfold AY at hl;split at hl
  ·rw[VS] at hv;subst hv;cases hl;obtain⟨n1,n2⟩:=hR.new (so:=.cells new) (ob:=.cells xs h.next) (.inl ⟨new,xs,rfl,rfl,k3⟩);simp only[hi,hz,aa,b1,b2',b3,ad,eN (show 0<=1000000 by omega),aj,ag,ai,happ,hmb,an,eN b4,H.mP];refine⟨_,_,_,rfl,n1,?_,n2⟩;rw[VS,cC]
  ·rename_i o' n es';rw[VS] at hv;subst hv;split at hl
   ·rename_i cs hS;obtain⟨⟨c1,c2,c3⟩,hl2⟩:=cy hl;cases hl2;subst c1;obtain⟨_,aS,q1,q2,q3⟩:=hR.obj o' _ hS (λh=>by cases h);obtain⟨f1,f2,f3⟩:=hR.fork hS k3 q1 c3
    have hle:ble (n*i.size) aS.length=true:=by rw[q2.length];exact eN c3
    simp only[hi,hz,aa,b1,b2',b3,eN c2,aj,ag,ai,happ,hmb,an,eN b4,ad,q1,hle,hone,bc];refine⟨_,_,_,rfl,f2,?_,f3⟩;rw[VS,cC,f1]
   ·cases hl
  ·rename_i e';obtain⟨c1,hl2⟩:=cy hl;cases hl2;rw[VS] at hv;obtain⟨o',e'',rfl,ho'⟩:=hv;obtain⟨n1,n2⟩:=hR.new (so:=.cells new) (ob:=.cells xs h.next) (.inl ⟨new,xs,rfl,rfl,k3⟩)
   cases o' with
   | none=>
    simp only[hi,hz,aa,b1,b2',b3,ad,eN (show 0<=1000000 by omega),aj,ag,ai,happ,hmb,an,eN b4,H.mP];refine⟨_,_,_,rfl,n1,?_,n2⟩;rw[VS,cC]
   | some q=>
    have:=ho' (by simp);subst this;subst c1;obtain⟨id,off⟩:=q
    have hnl:ble (0+m) 0=false:=by
     cases hb:ble (0+m) 0
     ·rfl
     ·have:=ap hb;omega
    have hsc:cJ h (some (id,off)) 0 i.size=some []:=rfl;simp only[hi,hz,aa,b1,b2',b3,ad,eN (show 0<=1000000 by omega),aj,ag,ai,happ,hmb,an,eN b4,H.mP,hnl,hsc,ac,List.nil_append];refine⟨_,_,_,rfl,n1,?_,n2⟩;rw[VS,cC,bc]
  ·rename_i o' n es' c';rw[VS] at hv;subst hv;split at hl
   ·rename_i cs hS;obtain⟨⟨c1,c2,c3,c4⟩,hl2⟩:=cy hl;cases hl2;subst c1;obtain⟨_,aS,q1,q2,q3⟩:=hR.obj o' _ hS (λh=>by cases h);obtain⟨n1,n2⟩:=hR.new (so:=.cells (cs.take (n*i.size)++new)) (ob:=.cells (aS.take (n*i.size)++xs) h.next) (.inl ⟨_,_,rfl,rfl,(q2.take _).app k3⟩)
    have hnl:ble (n+m) c'=false:=by
     cases hb:ble (n+m) c'
     ·rfl
     ·have:=ap hb;omega
    have hsc:cJ h (some ((θ o').id,0)) n i.size=some (aS.take (n*i.size)):=by
     unfold cJ;simp only;cases hm:beq n 0
     ·rw[an,mr];unfold rT;rw[q1];simp only[aa];show lG aS 0 (n*i.size)=_;unfold lG;rw[eN (show 0+n*i.size<=aS.length by rw[q2.length];omega),ai,ba]
     ·have:=cU hm;subst this;rw[ai,a6,a5]
    simp only[hi,hz,aa,b1,b2',b3,eN c2,aj,ag,ai,happ,hmb,an,eN b4,ad,hnl,hsc,ac,H.mP];refine⟨_,_,_,rfl,n1,?_,n2⟩;rw[VS,cC]
   ·cases hl
  ·cases hl
def PQ{x:SV}{a:AV}{c:Nat}(hv:VS θ ρ x a)(hc:yn x=some c):∃o n e,a=.slice o n e (some c):=by
 unfold yn at hc;split at hc
 ·cases hc;rw[VS] at hv;exact⟨_,_,_,hv⟩
 ·cases hc;rw[VS] at hv;exact⟨_,_,_,hv⟩
 ·cases hc;rw[VS] at hv;exact⟨_,_,_,hv⟩
 ·cases hc;rw[VS] at hv;obtain⟨o,e',rfl,_⟩:=hv;exact⟨_,_,_,rfl⟩
 ·cases hc
def Nl{x:SV}{a:AV}{o off n e:Nat}(hv:VS θ ρ x a)(hc:Q2 x=some (o,off,n,e)):∃c,a=.slice (some ((θ o).id,off)) n e c:=by
 unfold Q2 at hc;split at hc
 ·cases hc;rw[VS] at hv;exact⟨_,hv⟩
 ·cases hc;rw[VS] at hv;exact⟨_,hv⟩
 ·cases hc
def Ny{h0:En}{h:H}{S S':List SO}(hR:RS θ ρ0 ρ h0 h S){t:TypeId}{v w r:SV}{x y:AV}{kill:Option Nat}(hv:VS θ ρ v x)(hw:VS θ ρ w y)(hl:Fx P S t v w=some (r,S',kill)):
 ∃z h' θ',Fw P h t x y=some (z,h')/\RS θ' ρ0 ρ h0 h' S'/\VS θ' ρ r z/\∀v x,VS θ ρ v x->VS θ' ρ (tH kill v) x:=by
 unfold Fx at hl;obtain⟨⟨e,s⟩,hel,hl⟩:=bind_eq_some_iff.1 hl;obtain⟨hu,hs⟩:=gu hel;obtain⟨⟨o,off,dl,des⟩,hat,hl⟩:=bind_eq_some_iff.1 hl;obtain⟨⟨m,new⟩,hrow,hl⟩:=bind_eq_some_iff.1 hl;obtain⟨cap,rfl⟩:=Nl hv hat;obtain⟨o',es,c,xs,rfl,k1,k2,k3⟩:=GP hR hw hrow;simp only at hl hu hs hrow k2;unfold Fw;rw[hu];simp only;rw[hs,aa];unfold Kl at hl;by_cases hn:Nat.min m dl=0
 ·rw[ul hn] at hl;cases hl;rw[hn];exact⟨_,_,θ,rfl,hR,by rw[VS],λv x h=>h⟩
 ·rw[un hn] at hl;split at hl
  ·rename_i cs hS;obtain⟨⟨c1,c2,c3,c4⟩,hl2⟩:=cy hl;cases hl2;subst c1;have hm:m≠0:=λe=>hn (by rw[e];exact Nat.zero_min _)
   have hes:es=des:=by
    rw[Gh hm,Bool.or_false] at k1;exact cU k1
   subst hes;have hmn:Nat.min m dl<=m:=Nat.min_le_left _ _;generalize Nat.min m dl=n at *
   obtain⟨id,off',row,rfl,hch⟩:∃id off' row,o'=some (id,off')/\rT h.aR id=some row/\off'+m*es<=row.length/\xs=(row.drop off').take (m*es):=by
    unfold cJ at k2
    cases o' with
    | none=>simp[Gh hm] at k2
    | some q=>
     obtain⟨id,off'⟩:=q;simp only[Gh hm,an,mr] at k2;obtain⟨row,hr,k2⟩:=bind_eq_some_iff.1 k2;unfold lG at k2;obtain⟨hb,k2⟩:=aL k2;exact⟨id,off',row,rfl,hr,ap hb,by cases k2;rfl⟩
   have hle:n*es<=m*es:=Nat.mul_le_mul_right _ hmn
   have hsc:cJ h (some (id,off')) n es=some (xs.take (n*es)):=by
    unfold cJ;simp only[Gh hn,an,mr,hch.1,aa];unfold lG;rw[eN (show off'+n*es<=row.length by omega),ai,hch.2.2,List.take_take,a8 hle]
   have hl1:(new.take (n*es)).length=n*es:=by rw[List.length_take,a8 c3]
   obtain⟨h',e1,e2,e3⟩:=hR.store (off:=off) hS (k3.take (n*es)) (mn (k3.take _) c4) (by rw[hl1];exact c2);refine⟨_,h',_,?_,by rw[hl1] at e2;exact e2,by rw[VS],e3⟩;rw[Gh hn,an,ad,ag,ai,hsc,aa];simp only[e1,ac];rfl
  ·cases hl
def Lv{h0:En}{h:H}{S S':List SO}(hR:RS θ ρ0 ρ h0 h S){t:TypeId}{v r:SV}{x:AV}{kill:Option Nat}(hv:VS θ ρ v x)(hl:yr P S t v=some (r,S',kill)):
 ∃z h' θ',yq P h t x=some (z,h')/\RS θ' ρ0 ρ h0 h' S'/\VS θ' ρ r z/\∀v x,VS θ ρ v x->VS θ' ρ (tH kill v) x:=by
 unfold yr at hl;obtain⟨⟨e,s⟩,hel,hl⟩:=bind_eq_some_iff.1 hl;obtain⟨hu,hs⟩:=gu hel;obtain⟨z,hz,hl⟩:=bind_eq_some_iff.1 hl;obtain⟨⟨o,off,n,es⟩,hat,hl⟩:=bind_eq_some_iff.1 hl;obtain⟨cap,rfl⟩:=Nl hv hat;simp only at hl hu hs hz;unfold yq;rw[hu];simp only;rw[hs,aa,hz,aa];by_cases hn:n=0
 ·rw[ul hn] at hl;cases hl;subst hn;exact⟨_,_,θ,rfl,hR,by rw[VS];rfl,λv x h=>h⟩
 ·rw[un hn] at hl;split at hl
  ·rename_i cs hS;obtain⟨⟨c1,c2,c3,c4⟩,hl2⟩:=cy hl;cases hl2;subst c1
   have hl1:((rep z.cells n).map SV.a).length=n*es:=by
    rw[a0,gj,c2]
   obtain⟨h',e1,e2,e3⟩:=hR.store (off:=off) hS (c7.a (rep z.cells n)) c4 (by rw[hl1];exact c3);refine⟨_,h',_,?_,by rw[hl1] at e2;exact e2,by rw[VS],e3⟩;rw[Gh hn,an,ad,c2,ad,ag,ai];simp only[e1,ac];rfl
  ·cases hl
def Fl{h0:En}{h:H}{S S':List SO}(hR:RS θ ρ0 ρ h0 h S){b:Builtin}{ats:List TypeId}{vs:List SV}{xs:List AV}{r:SV}{kill:Option Nat}(hv:c7 θ ρ vs xs)(hl:dK P S b ats vs=some (r,S',kill)):
 ∃z h' θ',mD P h b ats xs=some (z,h')/\RS θ' ρ0 ρ h0 h' S'/\VS θ' ρ r z/\∀v x,VS θ ρ v x->VS θ' ρ (tH kill v) x:=by
 unfold dK at hl;split at hl
 ·rename_i st xt l x y;rw[aK] at hv;obtain⟨a,r1,rfl,h1,hv⟩:=hv;rw[aK] at hv;obtain⟨a2,r2,rfl,h2,hv⟩:=hv;rw[aQ] at hv;subst hv;have:=Ia hR h1 h2 hl;exact this
 ·rename_i t l x xs';rw[aK] at hv;obtain⟨a,r1,rfl,h1,hv⟩:=hv;obtain⟨n,hn,hl⟩:=aq hl;cases hl;have:=Qa hR h1 hn;refine⟨.int .i64 (n:Int),h,θ,?_,hR,?_,λv x h=>h⟩
  ·show(F3 P h t a).map (λv=>(v,h))=_;rw[this];rfl
  ·rw[VS]
 ·rename_i x l;rw[aK] at hv;obtain⟨a,r1,rfl,h1,hv⟩:=hv;obtain⟨n,hn,hl⟩:=aq hl;cases hl;obtain⟨z,hz,kz⟩:=DB h1 hv hn;refine⟨z,h,θ,?_,hR,kz,λv x h=>h⟩;unfold mD;split<;>simp_all
 ·rename_i x l;rw[aK] at hv;obtain⟨a,r1,rfl,h1,hv⟩:=hv;obtain⟨n,hn,hl⟩:=aq hl;cases hl;obtain⟨z,hz,kz⟩:=DB h1 hv hn;refine⟨z,h,θ,?_,hR,kz,λv x h=>h⟩;unfold mD;split<;>simp_all
 ·rename_i t l x k l';rw[aK] at hv;obtain⟨a,r1,rfl,h1,hv⟩:=hv;rw[aK] at hv;obtain⟨a2,r2,rfl,h2,hv⟩:=hv;obtain⟨S2,hS2,hl⟩:=aq hl;cases hl;obtain⟨h',e1,e2⟩:=PY hR h1 h2 hS2;exact⟨_,h',θ,e1,e2,by rw[VS];rfl,λv x h=>h⟩
 ·rename_i dt l x y;rw[aK] at hv;obtain⟨a,r1,rfl,h1,hv⟩:=hv;rw[aK] at hv;obtain⟨a2,r2,rfl,h2,hv⟩:=hv;rw[aQ] at hv;subst hv;exact Ny hR h1 h2 hl
 ·rename_i t l x;rw[aK] at hv;obtain⟨a,r1,rfl,h1,hv⟩:=hv;rw[aQ] at hv;subst hv;exact Lv hR h1 hl
 ·rename_i t l x;rw[aK] at hv;obtain⟨a,r1,rfl,h1,hv⟩:=hv;rw[aQ] at hv;subst hv;obtain⟨⟨e,s⟩,hel,hl⟩:=bind_eq_some_iff.1 hl;obtain⟨hu,_⟩:=gu hel;obtain⟨c,hc,hl⟩:=aq hl;cases hl;obtain⟨o,n,e',rfl⟩:=PQ h1 hc;refine⟨.int .i64 (c:Int),h,θ,?_,hR,by rw[VS],λv x h=>h⟩;show(match P.underlying t with | some (.slice _)=>some (AV.int .i64 (Int.ofNat c),h) | _=>none)=_;rw[hu];rfl
 ·cases hl
def OK{c a b:Option SV}{v:SV}(h:Gx c a b=some v):∃z x y,c=some (.a (.bool z))/\a=some x/\b=some y/\v=cond z x y:=by
 unfold Gx at h;split at h
 ·cases h;exact⟨_,_,_,rfl,rfl,rfl,rfl⟩
 ·cases h
def FR.jS{f:Fm}{af:Nat->AV}{n:Nat}{kill:Option Nat}{wv:Nat->AV}(hF:FR θ ρ (aX f) af n wv)(hk:∀v x,VS θ ρ v x->VS θ' ρ (tH kill v) x):FR θ' ρ (aX (Ev.jS f kill)) af n wv:=by
 refine⟨λi=>?_,hF.u⟩;have:=hk _ _ (hF.v i)
 cases kill with
 | none=>exact this
 | some o=>show VS θ' ρ (aX (dJ o f) i) _;rw[my];exact this
def FR.put{f:Fm}{af:Nat->AV}{n:Nat}{wv:Nat->AV}(hF:FR θ ρ (aX f) af n wv){d:Nat}{v:SV}{x:AV}(hd:d<n)(hv:VS θ ρ v x):FR θ ρ (aX ((d,v)::f)) (AU af d x) n wv:=by
 refine⟨λi=>?_,hF.u⟩;show VS θ ρ (if d=i then v else aX f i) _;by_cases hdi:d=i
 ·subst hdi;rw[ul rfl,ul hd,uJ];exact hv
 ·rw[un hdi,rJ _ _ (λe=>hdi e.symm)];exact hF.v i
def FR.kill{f:Fm}{af:Nat->AV}{n:Nat}{kill:Option Nat}{wv:Nat->AV}(hF:FR θ ρ (aX f) af n wv)(hk:∀v x,VS θ ρ v x->VS θ' ρ (tH kill v) x){d:Nat}{v:SV}{x:AV}(hd:d<n)(hv:VS θ' ρ v x):FR θ' ρ (aX (xn f kill (some d) v)) (AU af d x) n wv:=(hF.jS hk).put hd hv
def RR{h0:En}{h:H}{S S':List SO}(hR:RS θ ρ0 ρ h0 h S){f:Fm}{af:Nat->AV}{n:Nat}{wv:Nat->AV}(hF:FR θ ρ (aX f) af n wv){op:Op}{r:SV}{kill:Option Nat}(hop:dA P f S op=some (r,S',kill)):
 ∃rv h' θ',eg P (dj af n) h op=some [(rv,h')]/\RS θ' ρ0 ρ h0 h' S'/\VS θ' ρ r (TB rv)/\∀v x,VS θ ρ v x->VS θ' ρ (tH kill v) x:=by
 have pure:∀{w:SV} {y:AV},eg P (dj af n) h op=some [(some y,h)]->VS θ ρ w y->some (w,S,(none:Option Nat))=some (r,S',kill)->∃rv h' θ',eg P (dj af n) h op=some [(rv,h')]/\RS θ' ρ0 ρ h0 h' S'/\VS θ' ρ r (TB rv)/\∀v x,VS θ ρ v x->VS θ' ρ (tH kill v) x:=by
  intro w y h1 h2 h3;cases h3;exact⟨some y,h,θ,h1,hR,h2,λv x h=>h⟩
 have fresh:∀{so:SO} {ob:AO} {w:SV} {y:AV},eg P (dj af n) h op=some [(some y,{ h.lay h.next ob with next:=h.next+1 })]->((∃cs aS,so=.cells cs/\ob=.cells aS h.next/\c7 θ ρ cs aS)\/(so=.map [] [] none/\ob=.map [] 0))->VS (gP θ S.length ⟨h.next,h.next,h.next,h.next⟩) ρ w y->some (w,gO S so,some S.length)=some (r,S',kill)->∃rv h' θ',eg P (dj af n) h op=some [(rv,h')]/\RS θ' ρ0 ρ h0 h' S'/\VS θ' ρ r (TB rv)/\∀v x,VS θ ρ v x->VS θ' ρ (tH kill v) x:=by
  intro so ob w y h1 h2 h3 h4;cases h4;obtain⟨k1,k2⟩:=hR.new h2;exact⟨some y,_,_,h1,k1,h3,k2⟩
 cases op with
 | move x=>
  obtain⟨v,hv,e⟩:=aq hop;obtain⟨a,ha,ka⟩:=bG hF hv;exact pure (by rw[Qy,ha];rfl) ka (by rw[e])
 | assign x=>
  obtain⟨v,hv,e⟩:=aq hop;obtain⟨a,ha,ka⟩:=bG hF hv;exact pure (by rw[Mi,ha];rfl) ka (by rw[e])
 | pick c a b=>
  obtain⟨v,hv,e⟩:=aq hop;obtain⟨z,x,y,h1,h2,h3,rfl⟩:=OK hv;obtain⟨c',g1,k1⟩:=bG hF h1;obtain⟨a',g2,k2⟩:=bG hF h2;obtain⟨b',g3,k3⟩:=bG hF h3;rw[VS] at k1;subst k1;exact pure (w:=cond z x y) (y:=cond z a' b') (by rw[Qz,g1,g2,g3];rfl) (by cases z;exact k3;exact k2) (by rw[e])
 | alloc e=>
  obtain⟨z,hz,he⟩:=aq hop;exact fresh (w:=.ptr S.length 0) (so:=.cells (z.cells.map .a)) (ob:=.cells z.cells h.next) (by rw[Ox,hz];rfl) (.inl ⟨_,_,rfl,rfl,c7.a _⟩) (by rw[VS,cC]) (by rw[he])
 | box e x=>
  obtain⟨v,hv,hop⟩:=bind_eq_some_iff.1 hop;obtain⟨cs,hcs,he⟩:=aq hop;obtain⟨a,ha,ka⟩:=bG hF hv;exact fresh (w:=.ptr S.length 0) (so:=.cells cs) (ob:=.cells a.cells h.next) (by rw[RJ,ha];rfl) (.inl ⟨_,_,rfl,rfl,uZ ka hcs⟩) (by rw[VS,cC]) (by rw[he])
 | build tt ps=>
  obtain⟨l,hl,hop⟩:=bind_eq_some_iff.1 hop;obtain⟨v,hv,he⟩:=aq hop;obtain⟨aS,h1,k1⟩:=vR hF hl;obtain⟨a,ha,ka⟩:=Ls k1 hv;exact pure (by rw[Oy,h1,aa,ha];rfl) ka (by rw[he])
 | buildSlice tt m ps=>
  obtain⟨l,hl,hop⟩:=bind_eq_some_iff.1 hop;obtain⟨q,hv,he⟩:=aq hop;obtain⟨aS,h1,k1⟩:=vR hF hl;obtain⟨cs,ha,ka⟩:=yl k1 hv;exact fresh (w:=.buf S.length m q.1 (some m)) (so:=.cells q.2) (ob:=.cells cs h.next) (by rw[Bb,h1,aa,ha];rfl) (.inl ⟨_,_,rfl,rfl,ka⟩) (by rw[VS,cC]) (by rw[he])
 | makeMap tt x=>
  cases x with
  | none=>
   have he:some ((SV.map S.length,gO S (.map [] [] none),some S.length):SV×List SO×Option Nat)=some (r,S',kill):=hop;exact fresh (w:=.map S.length) (so:=.map [] [] none) (ob:=.map [] 0) (by rw[IW]) (.inr ⟨rfl,rfl⟩) (by rw[VS,cC]) he
  | some _=>simp[dA] at hop
 | makeSlice tt l c=>
  simp only[dA] at hop;split at hop
  ·rename_i la ca hl hc;obtain⟨q,hq,he⟩:=aq hop;obtain⟨l',g1,k1⟩:=bG hF hl;obtain⟨c',g2,k2⟩:=bG hF hc;rw[VS] at k1 k2;subst k1;subst k2;refine fresh (w:=.buf S.length q.1 q.2.1 (some q.2.2.1)) (so:=.cells (q.2.2.2.map .a)) (ob:=.cells q.2.2.2 h.next) (y:=.slice (some (h.next,0)) q.1 q.2.1 (some q.2.2.1)) ?_ (.inl ⟨_,_,rfl,rfl,c7.a _⟩) (by rw[VS,cC]) (by rw[he]);simp only[eg,o6,g1,g2,aa,hq,ac]
  ·cases hop
 | load tt a=>
  obtain⟨a',ha,hop⟩:=bind_eq_some_iff.1 hop;obtain⟨v,hv,he⟩:=aq hop;obtain⟨x,g1,k1⟩:=bG hF ha;obtain⟨y,g2,k2⟩:=F5 hR k1 hv;exact pure (by rw[Qw,g1,g2];rfl) k2 (by rw[he])
 | store tt a x=>
  obtain⟨a',ha,hop⟩:=bind_eq_some_iff.1 hop;obtain⟨x',hx,hop⟩:=bind_eq_some_iff.1 hop;obtain⟨S2,hS,he⟩:=aq hop;cases he;obtain⟨p,g1,k1⟩:=bG hF ha;obtain⟨y,g2,k2⟩:=bG hF hx;obtain⟨h',θ',e1,e2,e3⟩:=MB hR k1 k2 hS;exact⟨none,h',θ',by rw[OD,g1,g2,e1];rfl,e2,by rw[VS];rfl,e3⟩
 | nilCheck x=>
  obtain⟨a',ha,hop⟩:=bind_eq_some_iff.1 hop;obtain⟨v,hv,he⟩:=aq hop;obtain⟨p,g1,k1⟩:=bG hF ha;obtain⟨e1,rfl⟩:=Ql (P:=P) k1 hv;refine pure (y:=p) ?_ k1 (by rw[he]);simp only[eg,g1,aa,e1,ac]
 | binOp op t x y yt=>
  obtain⟨x',hx,hop⟩:=bind_eq_some_iff.1 hop;obtain⟨y',hy,hop⟩:=bind_eq_some_iff.1 hop;obtain⟨xa,hxa,hop⟩:=bind_eq_some_iff.1 hop;obtain⟨ya,hya,hop⟩:=bind_eq_some_iff.1 hop;obtain⟨v,hv,he⟩:=aq hop;obtain⟨p,g1,k1⟩:=bG hF hx;obtain⟨q,g2,k2⟩:=bG hF hy;have e1:=gZ k1 hxa;have e2:=gZ k2 hya;subst e1;subst e2;exact pure (w:=.a v) (y:=v) (by rw[IT,g1,g2,aa,aa,hv];rfl) (by rw[VS]) (by rw[he])
 | unOp op t x=>
  obtain⟨x',hx,hop⟩:=bind_eq_some_iff.1 hop;obtain⟨xa,hxa,hop⟩:=bind_eq_some_iff.1 hop;obtain⟨v,hv,he⟩:=aq hop;obtain⟨p,g1,k1⟩:=bG hF hx;have e1:=gZ k1 hxa;subst e1;exact pure (w:=.a v) (y:=v) (by rw[SP,g1,aa,hv];rfl) (by rw[VS]) (by rw[he])
 | convert s d x=>
  obtain⟨x',hx,hop⟩:=bind_eq_some_iff.1 hop;obtain⟨xa,hxa,hop⟩:=bind_eq_some_iff.1 hop;obtain⟨v,hv,he⟩:=aq hop;obtain⟨p,g1,k1⟩:=bG hF hx;have e1:=gZ k1 hxa;subst e1;exact pure (w:=.a v) (y:=v) (by rw[Qu,g1,aa,hv];rfl) (by rw[VS]) (by rw[he])
 | makeInterface t x=>
  simp only[dA] at hop;obtain⟨hi,hop⟩:=aL hop;obtain⟨v,hv,he⟩:=aq hop;obtain⟨p,g1,k1⟩:=bG hF hv;refine pure (w:=.iface t v) (y:=.iface t p) ?_ (by rw[VS];exact⟨p,rfl,k1⟩) (by rw[he]);unfold Kv at hi
  cases hu:P.underlying t with
  | none=>rw[hu] at hi;cases hi
  | some d=>
   rw[hu] at hi;rw[OA hu (by cases d<;>first | rfl | cases hi),g1];rfl
 | makeFunc g first cap=>
  cases g with
  | func g=>
   obtain⟨a,ha,hop⟩:=bind_eq_some_iff.1 hop;obtain⟨b,hb,he⟩:=aq hop;obtain⟨p,g1,k1⟩:=kZ hF ha;obtain⟨q,g2,k2⟩:=kZ hF hb;exact pure (w:=.fn g a b) (y:=.fn (.func g) p q) (by rw[Qv,g1,g2];rfl) (by rw[VS];exact⟨p,q,rfl,k1,k2⟩) (by rw[he])
  | method nm=>
   obtain⟨a,ha,hop⟩:=bind_eq_some_iff.1 hop;obtain⟨a2,ha2,hop⟩:=bind_eq_some_iff.1 hop;obtain⟨b,hb,hop⟩:=bind_eq_some_iff.1 hop;obtain⟨b2,hb2,he⟩:=aq hop;obtain⟨p,g1,k1⟩:=kZ hF ha;obtain⟨q,g2,k2⟩:=kZ hF hb;have e1:=oI k1 ha2;have e2:=oI k2 hb2;subst e1;subst e2;exact pure (w:=.a (.fn (.method nm) p q)) (y:=.fn (.method nm) p q) (by rw[Qx,g1,g2];rfl) (by rw[VS]) (by rw[he])
  | _=>simp[dA] at hop
 | slice tt x lo hi mx=>
  obtain⟨x',hx,hop⟩:=bind_eq_some_iff.1 hop;obtain⟨lo',hlo,hop⟩:=bind_eq_some_iff.1 hop;obtain⟨hi',hhi,hop⟩:=bind_eq_some_iff.1 hop;obtain⟨mx',hmx,hop⟩:=bind_eq_some_iff.1 hop;obtain⟨v,hv,he⟩:=aq hop;obtain⟨p,g1,k1⟩:=bG hF hx;obtain⟨y,g2,k2⟩:=MA (h:=h) k1 hv;refine pure (y:=y) ?_ k2 (by rw[he]);rw[OC,g1,D2 hF hlo,D2 hF hhi,D2 hF hmx];simp only[aa,g2,ac]
 | fieldAddr s x fl=>
  obtain⟨x',hx,hop⟩:=bind_eq_some_iff.1 hop;obtain⟨v,hv,he⟩:=aq hop;obtain⟨p,g1,k1⟩:=bG hF hx;obtain⟨y,g2,k2⟩:=A3 k1 hv;exact pure (by rw[DL,g1,aa,g2];rfl) k2 (by rw[he])
 | field s x fl=>
  obtain⟨x',hx,hop⟩:=bind_eq_some_iff.1 hop;obtain⟨v,hv,he⟩:=aq hop;obtain⟨p,g1,k1⟩:=bG hF hx;obtain⟨y,g2,k2⟩:=LL k1 hv;exact pure (by rw[Oz,g1,aa,g2];rfl) k2 (by rw[he])
 | indexAddr t x i=>
  obtain⟨x',hx,hop⟩:=bind_eq_some_iff.1 hop;obtain⟨i',hi,hop⟩:=bind_eq_some_iff.1 hop;obtain⟨v,hv,he⟩:=aq hop;obtain⟨p,g1,k1⟩:=bG hF hx;obtain⟨q,g3,k3⟩:=bG hF hi;obtain⟨y,g2,k2⟩:=A6 k1 k3 hv;exact pure (by rw[DM,g1,g3,aa,aa,g2];rfl) k2 (by rw[he])
 | index t x i=>
  obtain⟨x',hx,hop⟩:=bind_eq_some_iff.1 hop;obtain⟨i',hi,hop⟩:=bind_eq_some_iff.1 hop;obtain⟨v,hv,he⟩:=aq hop;obtain⟨p,g1,k1⟩:=bG hF hx;obtain⟨q,g3,k3⟩:=bG hF hi;obtain⟨y,g2,k2⟩:=LR k1 k3 hv;exact pure (by rw[OB,g1,g3,aa,aa,g2];rfl) k2 (by rw[he])
 | lookup t x k ok=>
  obtain⟨x',hx,hop⟩:=bind_eq_some_iff.1 hop;obtain⟨i',hi,hop⟩:=bind_eq_some_iff.1 hop;obtain⟨v,hv,he⟩:=aq hop;obtain⟨p,g1,k1⟩:=bG hF hx;obtain⟨q,g3,k3⟩:=bG hF hi;obtain⟨y,g2,k2⟩:=ID hR k1 k3 hv;exact pure (by rw[Mj,g1,g3,aa,aa,g2];rfl) k2 (by rw[he])
 | mapUpdate t m k x=>
  obtain⟨m',hm,hop⟩:=bind_eq_some_iff.1 hop;obtain⟨k',hk,hop⟩:=bind_eq_some_iff.1 hop;obtain⟨x',hx,hop⟩:=bind_eq_some_iff.1 hop;obtain⟨S2,hS,he⟩:=aq hop;cases he;obtain⟨p,g1,k1⟩:=bG hF hm;obtain⟨q,g2,k2⟩:=bG hF hk;obtain⟨y,g3,k3⟩:=bG hF hx;obtain⟨h',e1,e2⟩:=za hR k1 k2 k3 hS;refine⟨none,h',θ,?_,e2,by rw[VS];rfl,λv x h=>h⟩;rw[DN,g1,g2,g3];simp only[aa,e1,ac]
 | insert t m k x=>
  obtain⟨m',hm,hop⟩:=bind_eq_some_iff.1 hop;obtain⟨k',hk,hop⟩:=bind_eq_some_iff.1 hop;obtain⟨x',hx,hop⟩:=bind_eq_some_iff.1 hop;obtain⟨S2,hS,he⟩:=aq hop;cases he;obtain⟨p,g1,k1⟩:=bG hF hm;obtain⟨q,g2,k2⟩:=bG hF hk;obtain⟨y,g3,k3⟩:=bG hF hx;obtain⟨h',e1,e2⟩:=za hR k1 k2 k3 hS;refine⟨none,h',θ,?_,e2,by rw[VS];rfl,λv x h=>h⟩;simp only[eg,g1,g2,g3,aa,e1,ac]
 | extract x i=>
  simp only[dA] at hop;split at hop
  ·rename_i vs hx;obtain⟨v,hv,he⟩:=aq hop;obtain⟨p,g1,k1⟩:=bG hF hx;rw[VS] at k1;obtain⟨aS,rfl,k1⟩:=k1;obtain⟨y,g2,k2⟩:=k1.get hv;refine pure (y:=y) ?_ k2 (by rw[he]);rw[IV,g1];simp only[BS,g2,ac]
  ·cases hop
 | call c=>
  obtain⟨callee,args,ats⟩:=c
  cases callee with
  | builtin b=>
   obtain⟨xs,hxs,hop⟩:=bind_eq_some_iff.1 hop;obtain⟨p,g1,k1⟩:=kZ hF hxs;obtain⟨z,h',θ',e1,e2,e3,e4⟩:=Fl hR k1 hop;refine⟨some z,h',θ',?_,e2,e3,e4⟩;rw[IU,g1,aa,e1];rfl
  | _=>simp[dA] at hop
 | _=>simp[dA] at hop
end
noncomputable section
structure eB where
 f:Fm
 n:Nat
 S:List SO
 ds:List iV
def Sb(ds:List iV)(j:Nat):AV:=match ds.reverse[j]? with
 | some d=>match d.fn with
  | some f=>.fn f d.args d.cap
  | none=>kn
 | none=>kn
def xI(w:Nat->AV):List iV->Nat->AV
 | [],i=>w i
 | d::ds,i=>if 7000000<=i then Sb (d::ds) (i-7000000) else w i
def jG(ρ0:kg)(h0:En)(st:eB)(ast:gq):Prop:=ast.n=st.n/\ast.ds=st.ds/\∃θ ρ,RS θ ρ0 ρ h0 ast.h st.S/\FR θ ρ (aX st.f) ast.f st.n (xI h0.w ast.ds)
def Sw(ρ0:kg)(h0:En)(N:Nat)(Q:Ex->eB->Prop):Ex->gq->Prop:=λex ast=>∃st,Q ex st/\st.n=N/\jG ρ0 h0 st ast
def ar(P:Program)(ro:Option Nat)(c:Code)(st:eB)(Q:Ex->eB->Prop):Prop:=∀ρ0 h0 ast,jG ρ0 h0 st ast->kX P ro c ast (Sw ρ0 h0 st.n Q)
def aI(P:Program)(ro:Option Nat)(all l:List Oper)(st:eB)(K:eB->Prop):Prop:=∀ρ0 h0 ast,jG ρ0 h0 st ast->iN P ro all l ast (λast'=>∃st',K st'/\st'.n=st.n/\jG ρ0 h0 st' ast')
section
variable {P:Program} {ro:Option Nat}
def ar.mono{c:Code}{st:eB}{Q Q':Ex->eB->Prop}(h:ar P ro c st Q)(hq:∀e x,Q e x->Q' e x):ar P ro c st Q':=
 λρ0 h0 ast hs=>(h ρ0 h0 ast hs).mono λ_ _ ⟨x,h1,h2⟩=>⟨x,hq _ _ h1,h2⟩
def ar.skip{st:eB}{Q:Ex->eB->Prop}(h:Q .normal st):ar P ro .skip st Q:=λ_ _ _ hs=>.skip ⟨st,h,rfl,hs⟩
def ar.label{l:Nat}{st:eB}{Q:Ex->eB->Prop}(h:Q .normal st):ar P ro (.label l) st Q:=λ_ _ _ hs=>.label ⟨st,h,rfl,hs⟩
def ar.exit{id:Nat}{st:eB}{Q:Ex->eB->Prop}(h:Q (.exit id) st):ar P ro (.exit id) st Q:=λ_ _ _ hs=>.exit ⟨st,h,rfl,hs⟩
def ar.ret{st:eB}{Q:Ex->eB->Prop}(h:Q .ret st):ar P ro .ret st Q:=λ_ _ _ hs=>.ret ⟨st,h,rfl,hs⟩
def dS(P:Program)(ro:Option Nat)(y:Code)(Q:Ex->eB->Prop):Ex->eB->Prop
 | .normal,st=>ar P ro y st Q
 | e,st=>Q e st
def ar.seq{x y:Code}{st:eB}{Q:Ex->eB->Prop}(h:ar P ro x st (dS P ro y Q)):ar P ro (.seq x y) st Q:=by
 intro ρ0 h0 ast hs;refine .seq ((h ρ0 h0 ast hs).mono ?_);rintro e a ⟨st',h1,h2,h3⟩
 cases e with
 | normal=>
  have:=h1 ρ0 h0 a h3;rw[h2] at this;exact this
 | _=>exact⟨st',h1,h2,h3⟩
def ar.cond{c:Operand}{x y:Code}{st:eB}{Q:Ex->eB->Prop}{b:Bool}(hc:eF st.f c=some (.a (.bool b)))(h1:b=true->ar P ro x st Q)(h2:b=false->ar P ro y st Q):ar P ro (.cond c x y) st Q:=by
 intro ρ0 h0 ast hs;obtain⟨a1,a2,θ,ρ,hR,hF⟩:=hs;rw[<-a1] at hF;obtain⟨a,ha,ka⟩:=bG hF hc;rw[VS] at ka;subst ka;refine .cond ha (λh=>h1 h ρ0 h0 ast ⟨a1,a2,θ,ρ,hR,by rw[<-a1];exact hF⟩) (λh=>h2 h ρ0 h0 ast ⟨a1,a2,θ,ρ,hR,by rw[<-a1];exact hF⟩)
def ar.yes{c:Operand}{x y:Code}{st:eB}{Q:Ex->eB->Prop}(hc:eF st.f c=some (.a (.bool true)))(h1:ar P ro x st Q):ar P ro (.cond c x y) st Q:=.cond hc (λ_=>h1) (λh=>by cases h)
def ar.no{c:Operand}{x y:Code}{st:eB}{Q:Ex->eB->Prop}(hc:eF st.f c=some (.a (.bool false)))(h1:ar P ro y st Q):ar P ro (.cond c x y) st Q:=.cond hc (λh=>by cases h) (λ_=>h1)
def fV(id:Nat)(Q:Ex->eB->Prop):Ex->eB->Prop
 | .exit i,st=>if i=id then Q .normal st else Q (.exit i) st
 | e,st=>Q e st
def ar.block{id:Nat}{x:Code}{st:eB}{Q:Ex->eB->Prop}(h:ar P ro x st (fV id Q)):ar P ro (.block id x) st Q:=by
 intro ρ0 h0 ast hs;refine .block ((h ρ0 h0 ast hs).mono ?_);rintro e a ⟨st',h1,h2,h3⟩
 cases e with
 | exit i=>
  simp only[fV] at h1;simp only[M5];by_cases hi:i=id
  ·rw[ul hi] at h1 ⊢;exact⟨st',h1,h2,h3⟩
  ·rw[un hi] at h1 ⊢;exact⟨st',h1,h2,h3⟩
 | _=>exact⟨st',h1,h2,h3⟩
def Fg(st st':eB):Prop:=st'.n=st.n/\∀ρ0 h0 ast,jG ρ0 h0 st ast->jG ρ0 h0 st' ast
def Fg.trans{a b c:eB}(h1:Fg a b)(h2:Fg b c):Fg a c:=⟨h2.1.trans h1.1,λ_ _ _ h=>h2.2 _ _ _ (h1.2 _ _ _ h)⟩
def ar.fg{c:Code}{st st':eB}{Q:Ex->eB->Prop}(hf:Fg st st')(h:ar P ro c st' Q):ar P ro c st Q:=by
 intro ρ0 h0 ast hs;have:=h ρ0 h0 ast (hf.2 _ _ _ hs);rw[hf.1] at this;exact this
def cE(I:Nat->eB->Prop)(m:Nat)(Q:Ex->eB->Prop):Ex->eB->Prop
 | .normal,st=>∃k st',k<m/\Fg st st'/\I k st'
 | e,st=>Q e st
def ar.loop{x:Code}{st:eB}{Q:Ex->eB->Prop}(I:Nat->eB->Prop)(m:Nat){st0:eB}(hf:Fg st st0)(h0:I m st0)(hn:∀m st',I m st'->st'.n=st.n)(h:∀m st,I m st->ar P ro x st (cE I m Q)):ar P ro (.loop x) st Q:=by
 intro ρ0 hh ast hs;refine .loop (λm a=>∃st',I m st'/\jG ρ0 hh st' a) m ⟨st0,h0,hf.2 _ _ _ hs⟩ ?_;rintro k a ⟨st1,hI,hst⟩;refine(h k st1 hI ρ0 hh a hst).mono ?_;rintro e a' ⟨st',h1,h2,h3⟩;have hn1:=hn _ _ hI
 cases e with
 | normal=>
  obtain⟨k',st2,hk,hfg,hI2⟩:=h1;exact⟨k',hk,st2,hI2,hfg.2 _ _ _ h3⟩
 | _=>exact⟨st',h1,h2.trans hn1,h3⟩
def cq(Q:Ex->eB->Prop):Ex->eB->Prop
 | .goto _,_=>False
 | e,st=>Q e st
def ar.scope{x:Code}{st:eB}{Q:Ex->eB->Prop}(h:ar P ro x st (cq Q)):ar P ro (.scope x) st Q:=by
 intro ρ0 h0 ast hs;refine .scope ((h ρ0 h0 ast hs).mono ?_);rintro e a ⟨st',h1,h2,h3⟩
 cases e with
 | goto l=>exact h1.elim
 | _=>exact⟨st',h1,h2,h3⟩
def ar.region{id:Nat}{ops:Array Oper}{st:eB}{Q:Ex->eB->Prop}(h:aI P ro ops.toList ops.toList st (Q .normal)):ar P ro (.region id ops false) st Q:=by
 intro ρ0 h0 ast hs;obtain⟨f,n,hh,ds⟩:=ast;refine .region ?_;have:=h ρ0 h0 _ hs;intro ops i h1 h2 F n σ a w Q' h3 h4 h5;exact this ops i h1 h2 F n σ a w Q' h3 h4 λst' a' w' σ' h6=>h5 st' a' w' σ' (by obtain⟨x,k1,k2,k3⟩:=h6;exact⟨x,k1,k2,k3⟩)
def uL(ops:List Oper)(f:Fm)(n:Nat)(o:Oper):Option Bool:=match o.guard with
 | none=>some true
 | some (j,want)=>match (ops[j]?).bind (·.dst) with
  | some d=>_root_.cond (blt d n) (match aX f d with
   | .a (.bool b)=>some (b==want)
   | .a (.bE [])=>some false
   | _=>none) none
  | none=>none
def cK{θ:Nat->Loc}{ρ:kg}{ops:List Oper}{f:Fm}{af:Nat->AV}{n:Nat}{wv:Nat->AV}(hF:FR θ ρ (aX f) af n wv){o:Oper}{b:Bool}(h:uL ops f n o=some b):ke ops af n o=some b:=by
 unfold uL at h;unfold ke;split at h
 ·rename_i hg;rw[hg];exact h
 ·rename_i j want hg;rw[hg];simp only;split at h
  ·rename_i d hd;obtain⟨hlt,h2⟩:=aL h;have:=hF.v d;rw[ul (fW hlt)] at this;rw[hd];simp only;rw[hlt,ai];split at h2
   ·rename_i hx;rw[hx,VS] at this;rw[this];exact h2
   ·rename_i hx;rw[hx,VS] at this;rw[this];exact h2
   ·cases h2
  ·cases h
def eP(all:List Oper)(n:Nat)(l:List Oper):Bool:=l.all λo=>wj o.dst n&&(match o.guard with
 | none=>true
 | some (j,_)=>match (all[j]?).bind (·.dst) with
  | some d=>blt d n
  | none=>false)
def CZ(want:Bool):SV->Option Bool
 | .a (.bool b)=>some (_root_.cond want b (!b))
 | .a (.bE [])=>some false
 | _=>none
def db(all:List Oper)(f:Fm)(g:Option (Nat×Bool)):Option Bool:=match g with
 | none=>some true
 | some (j,want)=>(all[j]?).bind λo=>o.dst.bind λd=>CZ want (aX f d)
def dN{all:List Oper}{f:Fm}{n:Nat}{o:Oper}{l:List Oper}{b:Bool}(hs:eP all n (o::l)=true)(h:db all f o.guard=some b):uL all f n o=some b:=by
 unfold eP at hs;rw[bb,ay,ay] at hs;have hs2:=hs.1.2;unfold db at h;unfold uL
 cases hg:o.guard with
 | none=>rw[hg] at h;exact h
 | some q=>
  obtain⟨j,want⟩:=q;rw[hg] at h hs2;simp only at h hs2 ⊢;obtain⟨oj,hj,h⟩:=bind_eq_some_iff.1 h;obtain⟨d,hd,h⟩:=bind_eq_some_iff.1 h;rw[hj,aa,hd] at hs2 ⊢;simp only at hs2 ⊢;rw[hs2,ai];unfold CZ at h;split at h
  ·rename_i b' hb;cases want<;>cases b'<;>exact h
  ·exact h
  ·cases h
def ez{all:List Oper}{n:Nat}{o:Oper}{l:List Oper}(hs:eP all n (o::l)=true):wj o.dst n=true/\eP all n l=true:=by
 unfold eP at hs ⊢;rw[bb,ay,ay] at hs;exact⟨hs.1.1,hs.2⟩
def oW(P:Program)(all:List Oper):List Oper->Fm->List SO->List Oper×Fm×List SO
 | [],f,S=>([],f,S)
 | o::l,f,S=>match db all f o.guard with
  | some true=>match dA P f S o.op with
   | some q=>oW P all l (xn f q.2.2 o.dst q.1) q.2.1
   | none=>(o::l,f,S)
  | some false=>match o.dst with
   | some d=>oW P all l ((d,.a kn)::f) S
   | none=>(o::l,f,S)
  | none=>(o::l,f,S)
def aI.nil{all:List Oper}{st:eB}{K:eB->Prop}(h:K st):aI P ro all [] st K:=λ_ _ _ hs=>.nil ⟨st,h,rfl,hs⟩
def Mu{f:Fm}{S:List SO}{op:Op}{q:SV×List SO×Option Nat}(h:dA P f S op=some q):rz op=true:=by
 cases op<;>first | rfl | (simp[dA] at h;done)
def aI.run{all:List Oper}{ds:List iV}{n:Nat}{K:eB->Prop}:∀{l l':List Oper} {f f':Fm} {S S':List SO},eP all n l=true->oW P all l f S=(l',f',S')->aI P ro all l' ⟨f',n,S',ds⟩ K->aI P ro all l ⟨f,n,S,ds⟩ K
 | [],l',f,f',S,S',_,h,hk=>by
  simp only[oW,Prod.mk.injEq] at h;obtain⟨rfl,rfl,rfl⟩:=h;exact hk
 | o::l,l',f,f',S,S',hst,h,hk=>by
  have stop:(o::l,f,S)=(l',f',S')->aI P ro all (o::l) ⟨f,n,S,ds⟩ K:=by
   intro e;simp only[Prod.mk.injEq] at e;obtain⟨rfl,rfl,rfl⟩:=e;exact hk
  obtain⟨hd,hst2⟩:=ez hst;unfold oW at h;split at h
  ·rename_i hw;have hw:=dN hst hw;split at h
   ·rename_i q hop;obtain⟨v,S1,kill⟩:=q;rintro ρ0 h0 ⟨af,n',hh,ds'⟩ ⟨rfl,rfl,θ,ρ,hR,hF⟩;obtain⟨rv,h',θ',e1,e2,e3,e4⟩:=RR hR hF hop;refine .cons (cK hF hw) (.run (Mu hop) hd e1 ?_);intro x hx;rw[List.mem_singleton.1 hx];refine aI.run hst2 h hk ρ0 h0 _ ⟨rfl,rfl,θ',ρ,e2,?_⟩
    cases hdd:o.dst with
    | none=>exact hF.jS e4
    | some d=>rw[hdd] at hd;cases rv<;>exact hF.kill e4 (fW hd) e3
   ·exact stop h
  ·rename_i hw;have hw:=dN hst hw;split at h
   ·rename_i d hdst;rw[hdst] at hd;rintro ρ0 h0 ⟨af,n',hh,ds'⟩ ⟨rfl,rfl,θ,ρ,hR,hF⟩;refine .s hdst (cK hF hw) hd ?_;exact aI.run hst2 h hk ρ0 h0 _ ⟨rfl,rfl,θ,ρ,hR,hF.put (fW hd) (by rw[VS])⟩
   ·exact stop h
  ·exact stop h
end
end
end Go.Ev
