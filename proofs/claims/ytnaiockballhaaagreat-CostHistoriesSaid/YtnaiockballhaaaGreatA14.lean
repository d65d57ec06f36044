/- A part of the texts of this claim: every theorem says what it proves, with its conditions. -/
import Derived.Test.YtnaiockballhaaaGreatA13
set_option linter.unusedSimpArgs false
set_option linter.unusedVariables false
set_option linter.unusedSectionVars false
open Option (bind_eq_some_iff bind_some map_some)
open Nat (beq_refl beq ble zero_mul)
open List (map_cons length_map map_append take_zero getElem?_map map_nil mem_map)
namespace Go.Ev
section
variable {θ θ':Nat->Loc} {ρ ρ0:jP} {P:Program}
theorem Iz{h0:En}{h:H}{S:List SO}(hR:RS θ ρ0 ρ h0 h S){v:SV}{x:AV}(hv:VS θ ρ v x){e:List AV×List SV}(he:rU S v=some e):
 (x=.map none/\e=([],[]))\/∃id l c,x=.map (some id)/\h.mapOf id=some (l,c)/\l.map (·.1)=e.1/\c8 θ ρ e.2 (l.map (·.2.1)):=by
 unfold rU at he;split at he
 ·rename_i o;rw[VS] at hv;subst hv;split at he
  ·rename_i ks vs b hS;cases he;obtain⟨_,l,c,q1,⟨q2,_⟩,q3⟩:=hR.obj o _ hS (λh=>by cases h);exact .inr ⟨_,l,c,rfl,by unfold H.mapOf;rw[q1],q2,q3⟩
  ·cases he
 ·cases he;rw[VS,GS] at hv;obtain⟨id,l,c,rfl,h2,h3,h4⟩:=hv;exact .inr ⟨id,l,c,rfl,by unfold H.mapOf;rw[(hR.row id _ h2).2.1],h3.1,h4.vs⟩
 ·cases he;rw[VS] at hv;subst hv;exact .inl ⟨rfl,rfl⟩
 ·cases he
theorem GW{h0:En}{h:H}{S:List SO}(hR:RS θ ρ0 ρ h0 h S){t:TypeId}{v k w:SV}{x y:AV}{ok:Bool}(hv:VS θ ρ v x)(hk:VS θ ρ k y)(hl:eN P S t v k ok=some w):∃z,qk P h t x y ok=some z/\VS θ ρ w z:=by
 unfold eN at hl;obtain⟨⟨kt,et⟩,hm,hl⟩:=bind_eq_some_iff.1 hl;obtain⟨ka,hka,hl⟩:=bind_eq_some_iff.1 hl;have:=js hk hka;subst this;obtain⟨hkey,hl⟩:=aK hl;obtain⟨⟨ks,vs⟩,hent,hl⟩:=bind_eq_some_iff.1 hl;obtain⟨r,hf,hl⟩:=bind_eq_some_iff.1 hl;obtain⟨⟨u,b⟩,hu,rfl⟩:=au hl;unfold qk;rw[hm,bind_some];simp only;rw[hkey,ah]
 have fin:∀z:AV,VS θ ρ u z->VS θ ρ (cond ok (.bI [u,.a (.bool b)]) u) (cond ok (.bI [z,.bool b]) z):=by
  intro z hz;cases ok
  ·exact hz
  ·rw[ah,ah,VS];refine⟨_,rfl,?_⟩;rw[aL];refine⟨z,_,rfl,hz,?_⟩;rw[aL];exact⟨_,[],rfl,by rw[VS],by rw[bg]⟩
 rcases Iz hR hv hent with⟨rfl,he⟩ | ⟨id,l,c,rfl,h1,h2,h3⟩
 ·cases he;simp only[sa,Option.some.injEq] at hf;subst hf;obtain⟨z,hz,hu⟩:=au hu;cases hu;simp only[bind_some,gz,hz,map_some];exact⟨_,rfl,fin _ (ym z)⟩
 ·simp only at h2 h3 hf;simp only[h1,map_some,bind_some];rw[sb,h2,hf,bind_some]
  cases r with
  | none=>
   obtain⟨z,hz,hu⟩:=au hu;cases hu;simp only[hz,map_some];exact⟨_,rfl,fin _ (ym z)⟩
  | some i=>
   obtain⟨e,he,hu⟩:=au hu;cases hu;obtain⟨z,hz,kz⟩:=h3.get he;rw[getElem?_map] at hz;obtain⟨e3,he3,rfl⟩:=au hz;simp only[he3,map_some];exact⟨_,rfl,fin _ kz⟩
theorem qn{α:Type}(g:AV×AV×Nat->α)(x:AV×AV×Nat):∀(l:List (AV×AV×Nat)) (i:Nat),(setAt x l i).map g=(l.map g).set i (g x)
 | [],i=>by cases i<;>rfl
 | e::l,0=>rfl
 | e::l,i+1=>by
  rw[setAt,map_cons,map_cons,List.set_cons_succ,qn g x l i]
theorem mW.snoc{l:List (AV×AV×Nat)}{c:Nat}(h:mW l c)(k v:AV):mW (l++[(k,v,c)]) (c+1):=by
 refine⟨?_,λe he=>?_⟩
 ·rw[map_append,List.nodup_append];refine⟨h.1,by simp,?_⟩;intro a ha b hb;obtain⟨e,he,rfl⟩:=mem_map.1 ha;simp only[map_cons,map_nil,List.mem_singleton] at hb;subst hb;exact Nat.ne_of_lt (h.2 e he)
 ·rcases List.mem_append.1 he with he | he
  ·exact Nat.lt_succ_of_lt (h.2 e he)
  ·rw[List.mem_singleton.1 he];exact Nat.lt_succ_self _
theorem mW.N2{l l':List (AV×AV×Nat)}{c:Nat}(h:mW l c)(hb:l'.map (·.2.2)=l.map (·.2.2)):mW l' c:=by
 refine⟨by rw[hb];exact h.1,λe he=>?_⟩;have:e.2.2∈l'.map (·.2.2):=List.mem_map_of_mem he;rw[hb] at this;obtain⟨e',he',q⟩:=mem_map.1 this;rw[<-q];exact h.2 e' he'
theorem xO{h0:En}{h:H}{S S':List SO}(hR:RS θ ρ0 ρ h0 h S){t:TypeId}{v k w:SV}{x y z:AV}(hv:VS θ ρ v x)(hk:VS θ ρ k y)(hw:VS θ ρ w z)(hl:e7 P S t v k w=some S'):∃h',jZ P h t x y z=some h'/\RS θ ρ0 ρ h0 h' S':=by
 unfold e7 at hl;obtain⟨⟨kt,et⟩,hm,hl⟩:=bind_eq_some_iff.1 hl;obtain⟨ka,hka,hl⟩:=bind_eq_some_iff.1 hl;have:=js hk hka;subst this;obtain⟨hkey,hl⟩:=aK hl;unfold jZ;rw[hm,bind_some];simp only;rw[hkey,ah]
 cases v with
 | map o=>
  rw[VS] at hv;subst hv;simp only at hl ⊢;split at hl
  ·rename_i ks vs b hS;obtain⟨_,l,c,q1,⟨q2,qb,qp⟩,q3⟩:=hR.obj o _ hS (λh=>by cases h)
   have hmo:h.mapOf (θ o).id=some (l,c):=by unfold H.mapOf;rw[q1]
   obtain⟨r,hf,hl⟩:=bind_eq_some_iff.1 hl;rw[hmo,bind_some];simp only;rw[sb,q2,hf,bind_some]
   cases r with
   | none=>
    simp only at hl ⊢;cases hl;refine⟨_,rfl,hR.Pn hS ?_ ?_⟩
    ·refine⟨by rw[map_append,q2];rfl,qb.snoc _ _,λp hp=>?_⟩;obtain⟨p0,hp0,rfl⟩:=au hp;obtain⟨e1,e2⟩:=qp p0 hp0;exact⟨by rw[map_append,e1,e2];rfl,by rw[e2]⟩
    ·rw[map_append];refine q3.app ?_;rw[map_cons,map_nil,aL];exact⟨_,[],rfl,hw,by rw[bg]⟩
   | some i=>
    simp only at hl ⊢;obtain⟨k0,hk0,hl⟩:=bind_eq_some_iff.1 hl;obtain⟨hst,hl⟩:=aK hl;cases hl;rw[<-q2,getElem?_map] at hk0;obtain⟨e3,he3,rfl⟩:=au hk0;rw[he3,bind_some,hst,ah];refine⟨_,rfl,hR.Pn hS ?_ ?_⟩
    ·have hb:(setAt (y,z,e3.2.2) l i).map (·.2.2)=l.map (·.2.2):=by
      rw[qn];apply List.ext_getElem?;intro j;rw[List.getElem?_set];split
      ·rename_i e;subst e;split
       ·rw[getElem?_map,he3];rfl
       ·rename_i hl;rw[length_map] at hl;rw[List.getElem?_eq_none (by rw[length_map];omega)]
      ·rfl
     exact⟨by rw[qn,q2],qb.N2 hb,λp hp=>by rw[hb];exact qp p hp⟩
    ·rw[qn];exact q3.set i hw
  ·cases hl
 | _=>simp at hl
theorem c8.erase:∀{ds:List SV} {aS:List AV} (i:Nat),c8 θ ρ ds aS->c8 θ ρ (ds.eraseIdx i) (aS.eraseIdx i)
 | [],aS,i,h=>by rw[bg] at h;subst h;rw[List.eraseIdx_nil,List.eraseIdx_nil,bg]
 | d::ds,aS,i,h=>by
  rw[aL] at h;obtain⟨a,r,rfl,h1,h2⟩:=h
  cases i with
  | zero=>exact h2
  | succ i=>rw[List.eraseIdx_cons_succ,List.eraseIdx_cons_succ,aL];exact⟨a,_,rfl,h1,c8.erase i h2⟩
theorem eU{α β:Type}(g:α->β):∀(l:List α) (i:Nat),(l.eraseIdx i).map g=(l.map g).eraseIdx i
 | [],i=>by simp
 | a::l,0=>rfl
 | a::l,i+1=>by rw[List.eraseIdx_cons_succ,map_cons,map_cons,List.eraseIdx_cons_succ,eU g l i]
theorem Nz{h0:En}{h:H}{S S':List SO}(hR:RS θ ρ0 ρ h0 h S){t:TypeId}{v k:SV}{x y:AV}(hv:VS θ ρ v x)(hk:VS θ ρ k y)(hl:JO P S t v k=some S'):∃h',rS P h t x y=some (.bI [],h')/\RS θ ρ0 ρ h0 h' S':=by
 unfold JO at hl;obtain⟨⟨kt,et⟩,hm,hl⟩:=bind_eq_some_iff.1 hl;obtain⟨ka,hka,hl⟩:=bind_eq_some_iff.1 hl;have:=js hk hka;subst this;obtain⟨hkey,hl⟩:=aK hl;unfold rS;rw[hm,bind_some];simp only;rw[hkey,ah]
 cases v with
 | map o=>
  rw[VS] at hv;subst hv;simp only at hl ⊢;split at hl
  ·rename_i ks vs b hS;obtain⟨_,l,c,q1,⟨q2,qb,qp⟩,q3⟩:=hR.obj o _ hS (λh=>by cases h)
   have hmo:h.mapOf (θ o).id=some (l,c):=by unfold H.mapOf;rw[q1]
   obtain⟨r,hf,rfl⟩:=au hl;rw[hmo,bind_some];simp only;rw[sb,q2,hf,map_some]
   cases r with
   | none=>exact⟨_,rfl,hR⟩
   | some i=>
    refine⟨_,rfl,hR.Pn hS ?_ ?_⟩
    ·refine⟨by rw[eU,q2],⟨by rw[eU];exact qb.1.sublist (List.eraseIdx_sublist _ _),λe he=>qb.2 e (List.mem_of_mem_eraseIdx he)⟩,λp hp=>?_⟩;obtain⟨p0,hp0,rfl⟩:=au hp;obtain⟨e1,e2⟩:=qp p0 hp0;exact⟨by rw[eU,e1],e2⟩
    ·rw[eU];exact q3.erase i
  ·cases hl
 | _=>simp at hl
theorem NO{h0:En}{h:H}{S:List SO}(hR:RS θ ρ0 ρ h0 h S){t:TypeId}{v:SV}{x:AV}{n:Nat}(hv:VS θ ρ v x)(hl:oS P S t v=some n):Eg P h t x=some (.int .i64 (n:Int)):=by
 unfold oS at hl;unfold Eg;split at hl
 ·rename_i s hk;rw[xI hk];rw[VS] at hv;subst hv;cases hl;rfl
 ·rename_i n' _ cs hk;obtain⟨e,hu⟩:=oh hk;rw[hu];rw[VS,GS] at hv;cases hl
  rcases hv with⟨rfl,_,o,e',c,rfl,_,_⟩ | ⟨id,off,cap,row,rfl,_⟩<;>rfl
 ·rename_i o n' _ c hk;obtain⟨e,hu⟩:=oh hk;rw[hu];rw[VS] at hv;subst hv;cases hl;rfl
 ·rename_i n' _ c hk;obtain⟨e,hu⟩:=oh hk;rw[hu];rw[VS] at hv;subst hv;cases hl;rfl
 ·rename_i hk;obtain⟨kt,et,hu⟩:=LR hk;rw[hu];obtain⟨e,he,rfl⟩:=au hl
  rcases Iz hR hv he with⟨rfl,rfl⟩ | ⟨id,l,c,rfl,h1,h2,h3⟩
  ·rfl
  ·simp only[h1,map_some,<-h2,length_map];rfl
 ·rename_i o off n' _ c hk;obtain⟨e,hu⟩:=oh hk;rw[hu];rw[VS] at hv;subst hv;cases hl;rfl
 ·rename_i e hk;obtain⟨e,hu⟩:=oh hk;rw[hu];rw[VS] at hv;obtain⟨o,e',rfl,_⟩:=hv;cases hl;rfl
 ·cases hl
theorem E6{h0:En}{h:H}{S:List SO}(hR:RS θ ρ0 ρ h0 h S){s m:Nat}{v:SV}{x:AV}{new:List SV}(hv:VS θ ρ v x)(hl:mO S s v=some (m,new)):
 ∃o es c xs,x=.slice o m es c/\(beq es s||beq m 0)=true/\cy h o m s=some xs/\c8 θ ρ new xs:=by
 unfold mO at hl;split at hl
 ·rename_i n e cs;obtain⟨hb,hl⟩:=cg hl;cases hl;subst hb;rw[VS,GS] at hv
  rcases hv with⟨rfl,rfl,o,e',c,rfl,_,_⟩ | ⟨id,off,cap,row,rfl,h2,h3,h4⟩
  ·refine⟨o,e',c,[],rfl,by simp,?_,by rw[bg]⟩;unfold cy
   cases o with
   | none=>rfl
   | some q=>rfl
  ·refine⟨_,e,cap,(row.drop off).take (m*e),rfl,by rw[beq_refl,Bool.true_or],?_,h4.vs⟩;unfold cy;simp only;cases hm:beq m 0
   ·rw[ao,lD,E5 hR h2];simp only[bind_some,kV];rw[ek h3,ah]
   ·have:=cP hm;subst this;rw[ah,zero_mul,take_zero]
 ·rename_i o n e c;split at hl
  ·rename_i cs hS;obtain⟨⟨hes,hle⟩,hl⟩:=cg hl;cases hl;subst hes;rw[VS] at hv;subst hv;obtain⟨_,aS,q1,q2,_⟩:=hR.obj o _ hS (λh=>by cases h);refine⟨_,e,c,aS.take (m*e),rfl,by rw[beq_refl,Bool.true_or],?_,q2.take _⟩;unfold cy;simp only;cases hm:beq m 0
   ·rw[ao,lD];unfold qK;rw[q1];simp only[bind_some,kV];show kV aS 0 (m*e)=_;unfold kV;rw[ek (show 0+m*e<=aS.length by rw[q2.length];omega),ah,List.drop_zero]
   ·have:=cP hm;subst this;rw[ah,zero_mul,take_zero]
  ·cases hl
 ·cases hl;rw[VS] at hv;subst hv;exact⟨none,0,some 0,[],rfl,by simp,rfl,by rw[bg]⟩
 ·rename_i o off n e c;split at hl
  ·rename_i cs hS;obtain⟨⟨hes,hle⟩,hl⟩:=cg hl;cases hl;subst hes;rw[VS] at hv;subst hv;obtain⟨_,aS,q1,q2,_⟩:=hR.obj o _ hS (λh=>by cases h);refine⟨_,e,c,(aS.drop off).take (m*e),rfl,by rw[beq_refl,Bool.true_or],?_,(q2.drop off).take _⟩;unfold cy;simp only;cases hm:beq m 0
   ·rw[ao,lD];unfold qK;rw[q1];simp only[bind_some,kV];show kV aS off (m*e)=_;unfold kV;rw[ek (show off+m*e<=aS.length by rw[q2.length];omega),ah]
   ·have:=cP hm;subst this;rw[ah,zero_mul,take_zero]
  ·cases hl
 ·cases hl;rw[VS] at hv;obtain⟨o,e',rfl,_⟩:=hv;refine⟨o,e',some 0,[],rfl,by simp,?_,by rw[bg]⟩;unfold cy
  cases o with
  | none=>rfl
  | some q=>rfl
 ·cases hl
theorem Eu{a b:Nat}(h:a≠b):beq a b=false:=by
 cases hb:beq a b
 ·rfl
 ·exact absurd (cP hb) h
theorem G6{h0:En}{h:H}{S:List SO}(hR:RS θ ρ0 ρ h0 h S){xt e:TypeId}{s m:Nat}{z:AV}{w:SV}{y:AV}{new:List SV}(hz:dm P e=some z)(hzl:z.cells.length=s)(hw:VS θ ρ w y)(hl:sC P S xt s z w=some (m,new)):
 ∃xs,lC P h e s xt y=some (m,xs)/\c8 θ ρ new xs:=by
 unfold sC at hl;unfold lC;split at hl
 ·rename_i hk;obtain⟨e',hux⟩:=oh hk;obtain⟨o,es,c,xs,rfl,k1,k2,k3⟩:=E6 hR hw hl;rw[hux];simp only;rw[k1,ah,k2];exact⟨xs,rfl,k3⟩
 ·obtain⟨hi,hl⟩:=aK hl;obtain⟨n,hn,hl⟩:=bind_eq_some_iff.1 hl;obtain⟨hb,hl⟩:=cg hl;cases hl;unfold isInt at hi;split at hi
  ·rename_i kk hu;rw[hu];simp only;rw[B9 hw hn,bind_some,hz,bind_some,ek hb,hzl,beq_refl,Bool.and_self,ah];exact⟨_,rfl,c8.a _⟩
  ·cases hi
 ·cases hl
theorem Gu{h0:En}{h:H}{S S':List SO}(hR:RS θ ρ0 ρ h0 h S){st xt:TypeId}{v w r:SV}{x y:AV}{kill:Option Nat}(hv:VS θ ρ v x)(hw:VS θ ρ w y)(hl:rM P S st xt v w=some (r,S',kill)):
 ∃z h' θ',rL P h st xt x y=some (z,h')/\RS θ' ρ0 ρ h0 h' S'/\VS θ' ρ r z/\∀v x,VS θ ρ v x->VS θ' ρ (sq kill v) x:=by
 unfold rM at hl;have hl2:=bind_eq_some_iff.1 hl;clear hl;obtain⟨⟨e,s⟩,hel,hl⟩:=hl2;obtain⟨hu,hs⟩:=fR hel;simp only at hu hs hl;obtain⟨i,hi,rfl⟩:=au hs;have hl2:=bind_eq_some_iff.1 hl;clear hl;obtain⟨z,hz,hl⟩:=hl2;have hl2:=cg hl;clear hl;obtain⟨⟨b1,b2,b3⟩,hl⟩:=hl2;have hl2:=bind_eq_some_iff.1 hl;clear hl;obtain⟨⟨m,new⟩,hrow,hl⟩:=hl2;unfold nW at b3;rw[hi] at b3;simp only at b3 hl;have b2':=Eu b2;obtain⟨xs,happ,k3⟩:=G6 hR hz b1 hw hrow;unfold rL;rw[hu];by_cases hm:m=0
 ·rw[if_pos hm] at hl
  have hmb:beq m 0=true:=by rw[hm];rfl
  unfold Dl at hl;split at hl
  ·cases hl;have hv':=hv;rw[VS] at hv;subst hv;simp only[hi,hz,bind_some,b1,b2',b3,beq_refl,ek (show 0<=1000000 by omega),Bool.not_false,Bool.and_self,ah,happ,hmb];exact⟨_,_,θ,rfl,hR,hv',λv x h=>h⟩
  ·obtain⟨hn,hl⟩:=cg hl;cases hl;have hv':=hv;rw[VS] at hv;subst hv;simp only[hi,hz,bind_some,b1,b2',b3,beq_refl,ek hn,Bool.not_false,Bool.and_self,ah,happ,hmb];exact⟨_,_,θ,rfl,hR,hv',λv x h=>h⟩
  ·cases hl;have hv':=hv;rw[VS] at hv;obtain⟨o',e',rfl,_⟩:=hv;simp only[hi,hz,bind_some,b1,b2',b3,beq_refl,ek (show 0<=1000000 by omega),Bool.not_false,Bool.and_self,ah,happ,hmb];exact⟨_,_,θ,rfl,hR,hv',λv x h=>h⟩
  ·cases hl
 ·rw[if_neg hm] at hl;have hmb:=Eu hm;have hl2:=cg hl;clear hl;obtain⟨⟨b4,b5⟩,hl⟩:=hl2;have hone:=np k3 b5;unfold yX at hl;split at hl
  ·rw[VS] at hv;subst hv;cases hl;obtain⟨n1,n2⟩:=hR.new (so:=.cells new) (ob:=.cells xs h.next) (.inl ⟨new,xs,rfl,rfl,k3⟩);simp only[hi,hz,bind_some,b1,b2',b3,beq_refl,ek (show 0<=1000000 by omega),Bool.not_false,Bool.and_self,ah,happ,hmb,ao,ek b4,H.lX];refine⟨_,_,_,rfl,n1,?_,n2⟩;rw[VS,cz]
  ·rename_i o' n es';rw[VS] at hv;subst hv;split at hl
   ·rename_i cs hS;obtain⟨⟨c1,c2,c3⟩,hl2⟩:=cg hl;cases hl2;subst c1;obtain⟨_,aS,q1,q2,q3⟩:=hR.obj o' _ hS (λh=>by cases h);obtain⟨f1,f2,f3⟩:=hR.fork hS k3 q1 c3
    have hle:ble (n*i.size) aS.length=true:=by rw[q2.length];exact ek c3
    simp only[hi,hz,bind_some,b1,b2',b3,ek c2,Bool.not_false,Bool.and_self,ah,happ,hmb,ao,ek b4,beq_refl,q1,hle,hone,Nat.zero_add];refine⟨_,_,_,rfl,f2,?_,f3⟩;rw[VS,cz,f1]
   ·cases hl
  ·rename_i e';obtain⟨c1,hl2⟩:=cg hl;cases hl2;rw[VS] at hv;obtain⟨o',e'',rfl,ho'⟩:=hv;obtain⟨n1,n2⟩:=hR.new (so:=.cells new) (ob:=.cells xs h.next) (.inl ⟨new,xs,rfl,rfl,k3⟩)
   cases o' with
   | none=>
    simp only[hi,hz,bind_some,b1,b2',b3,beq_refl,ek (show 0<=1000000 by omega),Bool.not_false,Bool.and_self,ah,happ,hmb,ao,ek b4,H.lX];refine⟨_,_,_,rfl,n1,?_,n2⟩;rw[VS,cz]
   | some q=>
    have:=ho' (by simp);subst this;subst c1;obtain⟨id,off⟩:=q
    have hnl:ble (0+m) 0=false:=by
     cases hb:ble (0+m) 0
     ·rfl
     ·have:=Nat.le_of_ble_eq_true hb;omega
    have hsc:cy h (some (id,off)) 0 i.size=some []:=rfl;simp only[hi,hz,bind_some,b1,b2',b3,beq_refl,ek (show 0<=1000000 by omega),Bool.not_false,Bool.and_self,ah,happ,hmb,ao,ek b4,H.lX,hnl,hsc,map_some,List.nil_append];refine⟨_,_,_,rfl,n1,?_,n2⟩;rw[VS,cz,Nat.zero_add]
  ·rename_i o' n es' c';rw[VS] at hv;subst hv;split at hl
   ·rename_i cs hS;obtain⟨⟨c1,c2,c3,c4⟩,hl2⟩:=cg hl;cases hl2;subst c1;obtain⟨_,aS,q1,q2,q3⟩:=hR.obj o' _ hS (λh=>by cases h);obtain⟨n1,n2⟩:=hR.new (so:=.cells (cs.take (n*i.size)++new)) (ob:=.cells (aS.take (n*i.size)++xs) h.next) (.inl ⟨_,_,rfl,rfl,(q2.take _).app k3⟩)
    have hnl:ble (n+m) c'=false:=by
     cases hb:ble (n+m) c'
     ·rfl
     ·have:=Nat.le_of_ble_eq_true hb;omega
    have hsc:cy h (some ((θ o').id,0)) n i.size=some (aS.take (n*i.size)):=by
     unfold cy;simp only;cases hm:beq n 0
     ·rw[ao,lD];unfold qK;rw[q1];simp only[bind_some];show kV aS 0 (n*i.size)=_;unfold kV;rw[ek (show 0+n*i.size<=aS.length by rw[q2.length];omega),ah,List.drop_zero]
     ·have:=cP hm;subst this;rw[ah,zero_mul,take_zero]
    simp only[hi,hz,bind_some,b1,b2',b3,ek c2,Bool.not_false,Bool.and_self,ah,happ,hmb,ao,ek b4,beq_refl,hnl,hsc,map_some,H.lX];refine⟨_,_,_,rfl,n1,?_,n2⟩;rw[VS,cz]
   ·cases hl
  ·cases hl
theorem Nr{x:SV}{a:AV}{c:Nat}(hv:VS θ ρ x a)(hc:wS x=some c):∃o n e,a=.slice o n e (some c):=by
 unfold wS at hc;split at hc
 ·cases hc;rw[VS] at hv;exact⟨_,_,_,hv⟩
 ·cases hc;rw[VS] at hv;exact⟨_,_,_,hv⟩
 ·cases hc;rw[VS] at hv;exact⟨_,_,_,hv⟩
 ·cases hc;rw[VS] at hv;obtain⟨o,e',rfl,_⟩:=hv;exact⟨_,_,_,rfl⟩
 ·cases hc
theorem Lb{x:SV}{a:AV}{o off n e:Nat}(hv:VS θ ρ x a)(hc:OG x=some (o,off,n,e)):∃c,a=.slice (some ((θ o).id,off)) n e c:=by
 unfold OG at hc;split at hc
 ·cases hc;rw[VS] at hv;exact⟨_,hv⟩
 ·cases hc;rw[VS] at hv;exact⟨_,hv⟩
 ·cases hc
theorem Lm{h0:En}{h:H}{S S':List SO}(hR:RS θ ρ0 ρ h0 h S){t:TypeId}{v w r:SV}{x y:AV}{kill:Option Nat}(hv:VS θ ρ v x)(hw:VS θ ρ w y)(hl:DN P S t v w=some (r,S',kill)):
 ∃z h' θ',DM P h t x y=some (z,h')/\RS θ' ρ0 ρ h0 h' S'/\VS θ' ρ r z/\∀v x,VS θ ρ v x->VS θ' ρ (sq kill v) x:=by
 unfold DN at hl;obtain⟨⟨e,s⟩,hel,hl⟩:=bind_eq_some_iff.1 hl;obtain⟨hu,hs⟩:=fR hel;obtain⟨⟨o,off,dl,des⟩,hat,hl⟩:=bind_eq_some_iff.1 hl;obtain⟨⟨m,new⟩,hrow,hl⟩:=bind_eq_some_iff.1 hl;obtain⟨cap,rfl⟩:=Lb hv hat;obtain⟨o',es,c,xs,rfl,k1,k2,k3⟩:=E6 hR hw hrow;simp only at hl hu hs hrow k2;unfold DM;rw[hu];simp only;rw[hs,bind_some];unfold Iu at hl;by_cases hn:Nat.min m dl=0
 ·rw[if_pos hn] at hl;cases hl;rw[hn];exact⟨_,_,θ,rfl,hR,by rw[VS],λv x h=>h⟩
 ·rw[if_neg hn] at hl;split at hl
  ·rename_i cs hS;obtain⟨⟨c1,c2,c3,c4⟩,hl2⟩:=cg hl;cases hl2;subst c1;have hm:m≠0:=λe=>hn (by rw[e];exact Nat.zero_min _)
   have hes:es=des:=by
    rw[Eu hm,Bool.or_false] at k1;exact cP k1
   subst hes;have hmn:Nat.min m dl<=m:=Nat.min_le_left _ _;generalize Nat.min m dl=n at *
   obtain⟨id,off',row,rfl,hch⟩:∃id off' row,o'=some (id,off')/\qK h.aQ id=some row/\off'+m*es<=row.length/\xs=(row.drop off').take (m*es):=by
    unfold cy at k2
    cases o' with
    | none=>simp[Eu hm] at k2
    | some q=>
     obtain⟨id,off'⟩:=q;simp only[Eu hm,ao,lD] at k2;obtain⟨row,hr,k2⟩:=bind_eq_some_iff.1 k2;unfold kV at k2;obtain⟨hb,k2⟩:=aK k2;exact⟨id,off',row,rfl,hr,Nat.le_of_ble_eq_true hb,by cases k2;rfl⟩
   have hle:n*es<=m*es:=Nat.mul_le_mul_right _ hmn
   have hsc:cy h (some (id,off')) n es=some (xs.take (n*es)):=by
    unfold cy;simp only[Eu hn,ao,lD,hch.1,bind_some];unfold kV;rw[ek (show off'+n*es<=row.length by omega),ah,hch.2.2,List.take_take,Nat.min_eq_left hle]
   have hl1:(new.take (n*es)).length=n*es:=by rw[List.length_take,Nat.min_eq_left c3]
   obtain⟨h',e1,e2,e3⟩:=hR.store (off:=off) hS (k3.take (n*es)) (np (k3.take _) c4) (by rw[hl1];exact c2);refine⟨_,h',_,?_,by rw[hl1] at e2;exact e2,by rw[VS],e3⟩;rw[Eu hn,ao,beq_refl,Bool.and_self,ah,hsc,bind_some];simp only[e1,map_some];rfl
  ·cases hl
theorem JK{h0:En}{h:H}{S S':List SO}(hR:RS θ ρ0 ρ h0 h S){t:TypeId}{v r:SV}{x:AV}{kill:Option Nat}(hv:VS θ ρ v x)(hl:wW P S t v=some (r,S',kill)):
 ∃z h' θ',wV P h t x=some (z,h')/\RS θ' ρ0 ρ h0 h' S'/\VS θ' ρ r z/\∀v x,VS θ ρ v x->VS θ' ρ (sq kill v) x:=by
 unfold wW at hl;obtain⟨⟨e,s⟩,hel,hl⟩:=bind_eq_some_iff.1 hl;obtain⟨hu,hs⟩:=fR hel;obtain⟨z,hz,hl⟩:=bind_eq_some_iff.1 hl;obtain⟨⟨o,off,n,es⟩,hat,hl⟩:=bind_eq_some_iff.1 hl;obtain⟨cap,rfl⟩:=Lb hv hat;simp only at hl hu hs hz;unfold wV;rw[hu];simp only;rw[hs,bind_some,hz,bind_some];by_cases hn:n=0
 ·rw[if_pos hn] at hl;cases hl;subst hn;exact⟨_,_,θ,rfl,hR,by rw[VS];rfl,λv x h=>h⟩
 ·rw[if_neg hn] at hl;split at hl
  ·rename_i cs hS;obtain⟨⟨c1,c2,c3,c4⟩,hl2⟩:=cg hl;cases hl2;subst c1
   have hl1:((rep z.cells n).map SV.a).length=n*es:=by
    rw[length_map,fH,c2]
   obtain⟨h',e1,e2,e3⟩:=hR.store (off:=off) hS (c8.a (rep z.cells n)) c4 (by rw[hl1];exact c3);refine⟨_,h',_,?_,by rw[hl1] at e2;exact e2,by rw[VS],e3⟩;rw[Eu hn,ao,beq_refl,c2,beq_refl,Bool.and_self,ah];simp only[e1,map_some];rfl
  ·cases hl
theorem DE{h0:En}{h:H}{S S':List SO}(hR:RS θ ρ0 ρ h0 h S){b:Builtin}{ats:List TypeId}{vs:List SV}{xs:List AV}{r:SV}{kill:Option Nat}(hv:c8 θ ρ vs xs)(hl:dC P S b ats vs=some (r,S',kill)):
 ∃z h' θ',lN P h b ats xs=some (z,h')/\RS θ' ρ0 ρ h0 h' S'/\VS θ' ρ r z/\∀v x,VS θ ρ v x->VS θ' ρ (sq kill v) x:=by
 unfold dC at hl;split at hl
 ·rename_i st xt l x y;rw[aL] at hv;obtain⟨a,r1,rfl,h1,hv⟩:=hv;rw[aL] at hv;obtain⟨a2,r2,rfl,h2,hv⟩:=hv;rw[bg] at hv;subst hv;have:=Gu hR h1 h2 hl;exact this
 ·rename_i t l x xs';rw[aL] at hv;obtain⟨a,r1,rfl,h1,hv⟩:=hv;obtain⟨n,hn,hl⟩:=au hl;cases hl;have:=NO hR h1 hn;refine⟨.int .i64 (n:Int),h,θ,?_,hR,?_,λv x h=>h⟩
  ·show(Eg P h t a).map (λv=>(v,h))=_;rw[this];rfl
  ·rw[VS]
 ·rename_i x l;rw[aL] at hv;obtain⟨a,r1,rfl,h1,hv⟩:=hv;obtain⟨n,hn,hl⟩:=au hl;cases hl;obtain⟨z,hz,kz⟩:=B7 h1 hv hn;refine⟨z,h,θ,?_,hR,kz,λv x h=>h⟩;unfold lN;split<;>simp_all
 ·rename_i x l;rw[aL] at hv;obtain⟨a,r1,rfl,h1,hv⟩:=hv;obtain⟨n,hn,hl⟩:=au hl;cases hl;obtain⟨z,hz,kz⟩:=B7 h1 hv hn;refine⟨z,h,θ,?_,hR,kz,λv x h=>h⟩;unfold lN;split<;>simp_all
 ·rename_i t l x k l';rw[aL] at hv;obtain⟨a,r1,rfl,h1,hv⟩:=hv;rw[aL] at hv;obtain⟨a2,r2,rfl,h2,hv⟩:=hv;obtain⟨S2,hS2,hl⟩:=au hl;cases hl;obtain⟨h',e1,e2⟩:=Nz hR h1 h2 hS2;exact⟨_,h',θ,e1,e2,by rw[VS];rfl,λv x h=>h⟩
 ·rename_i dt l x y;rw[aL] at hv;obtain⟨a,r1,rfl,h1,hv⟩:=hv;rw[aL] at hv;obtain⟨a2,r2,rfl,h2,hv⟩:=hv;rw[bg] at hv;subst hv;exact Lm hR h1 h2 hl
 ·rename_i t l x;rw[aL] at hv;obtain⟨a,r1,rfl,h1,hv⟩:=hv;rw[bg] at hv;subst hv;exact JK hR h1 hl
 ·rename_i t l x;rw[aL] at hv;obtain⟨a,r1,rfl,h1,hv⟩:=hv;rw[bg] at hv;subst hv;obtain⟨⟨e,s⟩,hel,hl⟩:=bind_eq_some_iff.1 hl;obtain⟨hu,_⟩:=fR hel;obtain⟨c,hc,hl⟩:=au hl;cases hl;obtain⟨o,n,e',rfl⟩:=Nr h1 hc;refine⟨.int .i64 (c:Int),h,θ,?_,hR,by rw[VS],λv x h=>h⟩;show(match P.underlying t with | some (.slice _)=>some (AV.int .i64 (Int.ofNat c),h) | _=>none)=_;rw[hu];rfl
 ·cases hl
theorem Mq{c a b:Option SV}{v:SV}(h:EN c a b=some v):∃z x y,c=some (.a (.bool z))/\a=some x/\b=some y/\v=cond z x y:=by
 unfold EN at h;split at h
 ·cases h;exact⟨_,_,_,rfl,rfl,rfl,rfl⟩
 ·cases h
theorem FR.ia{f:Fm}{af:Nat->AV}{n:Nat}{kill:Option Nat}{wv:Nat->AV}(hF:FR θ ρ (aR f) af n wv)(hk:∀v x,VS θ ρ v x->VS θ' ρ (sq kill v) x):FR θ' ρ (aR (Ev.ia f kill)) af n wv:=by
 refine⟨λi=>?_,hF.u⟩;have:=hk _ _ (hF.v i)
 cases kill with
 | none=>exact this
 | some o=>show VS θ' ρ (aR (dz o f) i) _;rw[lG];exact this
theorem FR.put{f:Fm}{af:Nat->AV}{n:Nat}{wv:Nat->AV}(hF:FR θ ρ (aR f) af n wv){d:Nat}{v:SV}{x:AV}(hd:d<n)(hv:VS θ ρ v x):FR θ ρ (aR ((d,v)::f)) (yU af d x) n wv:=by
 refine⟨λi=>?_,hF.u⟩;show VS θ ρ (if d=i then v else aR f i) _;by_cases hdi:d=i
 ·subst hdi;rw[if_pos rfl,if_pos hd,tw];exact hv
 ·rw[if_neg hdi,qB _ _ (λe=>hdi e.symm)];exact hF.v i
theorem FR.kill{f:Fm}{af:Nat->AV}{n:Nat}{kill:Option Nat}{wv:Nat->AV}(hF:FR θ ρ (aR f) af n wv)(hk:∀v x,VS θ ρ v x->VS θ' ρ (sq kill v) x){d:Nat}{v:SV}{x:AV}(hd:d<n)(hv:VS θ' ρ v x):FR θ' ρ (aR (se f kill (some d) v)) (yU af d x) n wv:=(hF.ia hk).put hd hv
theorem Pw{h0:En}{h:H}{S S':List SO}(hR:RS θ ρ0 ρ h0 h S){f:Fm}{af:Nat->AV}{n:Nat}{wv:Nat->AV}(hF:FR θ ρ (aR f) af n wv){op:Op}{r:SV}{kill:Option Nat}(hop:db P f S op=some (r,S',kill)):
 ∃rv h' θ',ef P (dL af n) h op=some [(rv,h')]/\RS θ' ρ0 ρ h0 h' S'/\VS θ' ρ r (QD rv)/\∀v x,VS θ ρ v x->VS θ' ρ (sq kill v) x:=by
 have pure:∀{w:SV} {y:AV},ef P (dL af n) h op=some [(some y,h)]->VS θ ρ w y->some (w,S,(none:Option Nat))=some (r,S',kill)->∃rv h' θ',ef P (dL af n) h op=some [(rv,h')]/\RS θ' ρ0 ρ h0 h' S'/\VS θ' ρ r (QD rv)/\∀v x,VS θ ρ v x->VS θ' ρ (sq kill v) x:=by
  intro w y h1 h2 h3;cases h3;exact⟨some y,h,θ,h1,hR,h2,λv x h=>h⟩
 have fresh:∀{so:SO} {ob:AO} {w:SV} {y:AV},ef P (dL af n) h op=some [(some y,{ h.lay h.next ob with next:=h.next+1 })]->((∃cs aS,so=.cells cs/\ob=.cells aS h.next/\c8 θ ρ cs aS)\/(so=.map [] [] none/\ob=.map [] 0))->VS (gj θ S.length ⟨h.next,h.next,h.next,h.next⟩) ρ w y->some (w,gi S so,some S.length)=some (r,S',kill)->∃rv h' θ',ef P (dL af n) h op=some [(rv,h')]/\RS θ' ρ0 ρ h0 h' S'/\VS θ' ρ r (QD rv)/\∀v x,VS θ ρ v x->VS θ' ρ (sq kill v) x:=by
  intro so ob w y h1 h2 h3 h4;cases h4;obtain⟨k1,k2⟩:=hR.new h2;exact⟨some y,_,_,h1,k1,h3,k2⟩
 cases op with
 | move x=>
  obtain⟨v,hv,e⟩:=au hop;obtain⟨a,ha,ka⟩:=bL hF hv;exact pure (by rw[Od,ha];rfl) ka (by rw[e])
 | assign x=>
  obtain⟨v,hv,e⟩:=au hop;obtain⟨a,ha,ka⟩:=bL hF hv;exact pure (by rw[Ki,ha];rfl) ka (by rw[e])
 | pick c a b=>
  obtain⟨v,hv,e⟩:=au hop;obtain⟨z,x,y,h1,h2,h3,rfl⟩:=Mq hv;obtain⟨c',g1,k1⟩:=bL hF h1;obtain⟨a',g2,k2⟩:=bL hF h2;obtain⟨b',g3,k3⟩:=bL hF h3;rw[VS] at k1;subst k1;exact pure (w:=cond z x y) (y:=cond z a' b') (by rw[Oe,g1,g2,g3];rfl) (by cases z;exact k3;exact k2) (by rw[e])
 | alloc e=>
  obtain⟨z,hz,he⟩:=au hop;exact fresh (w:=.ptr S.length 0) (so:=.cells (z.cells.map .a)) (ob:=.cells z.cells h.next) (by rw[Mf,hz];rfl) (.inl ⟨_,_,rfl,rfl,c8.a _⟩) (by rw[VS,cz]) (by rw[he])
 | box e x=>
  obtain⟨v,hv,hop⟩:=bind_eq_some_iff.1 hop;obtain⟨cs,hcs,he⟩:=au hop;obtain⟨a,ha,ka⟩:=bL hF hv;exact fresh (w:=.ptr S.length 0) (so:=.cells cs) (ob:=.cells a.cells h.next) (by rw[Po,ha];rfl) (.inl ⟨_,_,rfl,rfl,tP ka hcs⟩) (by rw[VS,cz]) (by rw[he])
 | build tt ps=>
  obtain⟨l,hl,hop⟩:=bind_eq_some_iff.1 hop;obtain⟨v,hv,he⟩:=au hop;obtain⟨aS,h1,k1⟩:=uG hF hl;obtain⟨a,ha,ka⟩:=JG k1 hv;exact pure (by rw[Mg,h1,bind_some,ha];rfl) ka (by rw[he])
 | buildSlice tt m ps=>
  obtain⟨l,hl,hop⟩:=bind_eq_some_iff.1 hop;obtain⟨q,hv,he⟩:=au hop;obtain⟨aS,h1,k1⟩:=uG hF hl;obtain⟨cs,ha,ka⟩:=wQ k1 hv;exact fresh (w:=.buf S.length m q.1 (some m)) (so:=.cells q.2) (ob:=.cells cs h.next) (by rw[zb,h1,bind_some,ha];rfl) (.inl ⟨_,_,rfl,rfl,ka⟩) (by rw[VS,cz]) (by rw[he])
 | makeMap tt x=>
  cases x with
  | none=>
   have he:some ((SV.map S.length,gi S (.map [] [] none),some S.length):SV×List SO×Option Nat)=some (r,S',kill):=hop;exact fresh (w:=.map S.length) (so:=.map [] [] none) (ob:=.map [] 0) (by rw[Hc]) (.inr ⟨rfl,rfl⟩) (by rw[VS,cz]) he
  | some _=>simp[db] at hop
 | makeSlice tt l c=>
  simp only[db] at hop;split at hop
  ·rename_i la ca hl hc;obtain⟨q,hq,he⟩:=au hop;obtain⟨l',g1,k1⟩:=bL hF hl;obtain⟨c',g2,k2⟩:=bL hF hc;rw[VS] at k1 k2;subst k1;subst k2;refine fresh (w:=.buf S.length q.1 q.2.1 (some q.2.2.1)) (so:=.cells (q.2.2.2.map .a)) (ob:=.cells q.2.2.2 h.next) (y:=.slice (some (h.next,0)) q.1 q.2.1 (some q.2.2.1)) ?_ (.inl ⟨_,_,rfl,rfl,c8.a _⟩) (by rw[VS,cz]) (by rw[he]);simp only[ef,nQ,g1,g2,bind_some,hq,map_some]
  ·cases hop
 | load tt a=>
  obtain⟨a',ha,hop⟩:=bind_eq_some_iff.1 hop;obtain⟨v,hv,he⟩:=au hop;obtain⟨x,g1,k1⟩:=bL hF ha;obtain⟨y,g2,k2⟩:=Ei hR k1 hv;exact pure (by rw[Ob,g1,g2];rfl) k2 (by rw[he])
 | store tt a x=>
  obtain⟨a',ha,hop⟩:=bind_eq_some_iff.1 hop;obtain⟨x',hx,hop⟩:=bind_eq_some_iff.1 hop;obtain⟨S2,hS,he⟩:=au hop;cases he;obtain⟨p,g1,k1⟩:=bL hF ha;obtain⟨y,g2,k2⟩:=bL hF hx;obtain⟨h',θ',e1,e2,e3⟩:=Ky hR k1 k2 hS;exact⟨none,h',θ',by rw[Ml,g1,g2,e1];rfl,e2,by rw[VS];rfl,e3⟩
 | nilCheck x=>
  obtain⟨a',ha,hop⟩:=bind_eq_some_iff.1 hop;obtain⟨v,hv,he⟩:=au hop;obtain⟨p,g1,k1⟩:=bL hF ha;obtain⟨e1,rfl⟩:=NY (P:=P) k1 hv;refine pure (y:=p) ?_ k1 (by rw[he]);simp only[ef,g1,bind_some,e1,map_some]
 | binOp op t x y yt=>
  obtain⟨x',hx,hop⟩:=bind_eq_some_iff.1 hop;obtain⟨y',hy,hop⟩:=bind_eq_some_iff.1 hop;obtain⟨xa,hxa,hop⟩:=bind_eq_some_iff.1 hop;obtain⟨ya,hya,hop⟩:=bind_eq_some_iff.1 hop;obtain⟨v,hv,he⟩:=au hop;obtain⟨p,g1,k1⟩:=bL hF hx;obtain⟨q,g2,k2⟩:=bL hF hy;have e1:=js k1 hxa;have e2:=js k2 hya;subst e1;subst e2;exact pure (w:=.a v) (y:=v) (by rw[G9,g1,g2,bind_some,bind_some,hv];rfl) (by rw[VS]) (by rw[he])
 | unOp op t x=>
  obtain⟨x',hx,hop⟩:=bind_eq_some_iff.1 hop;obtain⟨xa,hxa,hop⟩:=bind_eq_some_iff.1 hop;obtain⟨v,hv,he⟩:=au hop;obtain⟨p,g1,k1⟩:=bL hF hx;have e1:=js k1 hxa;subst e1;exact pure (w:=.a v) (y:=v) (by rw[P7,g1,bind_some,hv];rfl) (by rw[VS]) (by rw[he])
 | convert s d x=>
  obtain⟨x',hx,hop⟩:=bind_eq_some_iff.1 hop;obtain⟨xa,hxa,hop⟩:=bind_eq_some_iff.1 hop;obtain⟨v,hv,he⟩:=au hop;obtain⟨p,g1,k1⟩:=bL hF hx;have e1:=js k1 hxa;subst e1;exact pure (w:=.a v) (y:=v) (by rw[N8,g1,bind_some,hv];rfl) (by rw[VS]) (by rw[he])
 | makeInterface t x=>
  simp only[db] at hop;obtain⟨hi,hop⟩:=aK hop;obtain⟨v,hv,he⟩:=au hop;obtain⟨p,g1,k1⟩:=bL hF hv;refine pure (w:=.iface t v) (y:=.iface t p) ?_ (by rw[VS];exact⟨p,rfl,k1⟩) (by rw[he]);unfold IG at hi
  cases hu:P.underlying t with
  | none=>rw[hu] at hi;cases hi
  | some d=>
   rw[hu] at hi;rw[Mi hu (by cases d<;>first | rfl | cases hi),g1];rfl
 | makeFunc g first cap=>
  cases g with
  | func g=>
   obtain⟨a,ha,hop⟩:=bind_eq_some_iff.1 hop;obtain⟨b,hb,he⟩:=au hop;obtain⟨p,g1,k1⟩:=kq hF ha;obtain⟨q,g2,k2⟩:=kq hF hb;exact pure (w:=.fn g a b) (y:=.fn (.func g) p q) (by rw[N9,g1,g2];rfl) (by rw[VS];exact⟨p,q,rfl,k1,k2⟩) (by rw[he])
  | method nm=>
   obtain⟨a,ha,hop⟩:=bind_eq_some_iff.1 hop;obtain⟨a2,ha2,hop⟩:=bind_eq_some_iff.1 hop;obtain⟨b,hb,hop⟩:=bind_eq_some_iff.1 hop;obtain⟨b2,hb2,he⟩:=au hop;obtain⟨p,g1,k1⟩:=kq hF ha;obtain⟨q,g2,k2⟩:=kq hF hb;have e1:=pj k1 ha2;have e2:=pj k2 hb2;subst e1;subst e2;exact pure (w:=.a (.fn (.method nm) p q)) (y:=.fn (.method nm) p q) (by rw[Oc,g1,g2];rfl) (by rw[VS]) (by rw[he])
  | _=>simp[db] at hop
 | slice tt x lo hi mx=>
  obtain⟨x',hx,hop⟩:=bind_eq_some_iff.1 hop;obtain⟨lo',hlo,hop⟩:=bind_eq_some_iff.1 hop;obtain⟨hi',hhi,hop⟩:=bind_eq_some_iff.1 hop;obtain⟨mx',hmx,hop⟩:=bind_eq_some_iff.1 hop;obtain⟨v,hv,he⟩:=au hop;obtain⟨p,g1,k1⟩:=bL hF hx;obtain⟨y,g2,k2⟩:=Kx (h:=h) k1 hv;refine pure (y:=y) ?_ k2 (by rw[he]);rw[Mk,g1,Ct hF hlo,Ct hF hhi,Ct hF hmx];simp only[bind_some,g2,map_some]
 | fieldAddr s x fl=>
  obtain⟨x',hx,hop⟩:=bind_eq_some_iff.1 hop;obtain⟨v,hv,he⟩:=au hop;obtain⟨p,g1,k1⟩:=bL hF hx;obtain⟨y,g2,k2⟩:=y4 k1 hv;exact pure (by rw[Cf,g1,bind_some,g2];rfl) k2 (by rw[he])
 | field s x fl=>
  obtain⟨x',hx,hop⟩:=bind_eq_some_iff.1 hop;obtain⟨v,hv,he⟩:=au hop;obtain⟨p,g1,k1⟩:=bL hF hx;obtain⟨y,g2,k2⟩:=JW k1 hv;exact pure (by rw[Mh,g1,bind_some,g2];rfl) k2 (by rw[he])
 | indexAddr t x i=>
  obtain⟨x',hx,hop⟩:=bind_eq_some_iff.1 hop;obtain⟨i',hi,hop⟩:=bind_eq_some_iff.1 hop;obtain⟨v,hv,he⟩:=au hop;obtain⟨p,g1,k1⟩:=bL hF hx;obtain⟨q,g3,k3⟩:=bL hF hi;obtain⟨y,g2,k2⟩:=y7 k1 k3 hv;exact pure (by rw[Cg,g1,g3,bind_some,bind_some,g2];rfl) k2 (by rw[he])
 | index t x i=>
  obtain⟨x',hx,hop⟩:=bind_eq_some_iff.1 hop;obtain⟨i',hi,hop⟩:=bind_eq_some_iff.1 hop;obtain⟨v,hv,he⟩:=au hop;obtain⟨p,g1,k1⟩:=bL hF hx;obtain⟨q,g3,k3⟩:=bL hF hi;obtain⟨y,g2,k2⟩:=J0 k1 k3 hv;exact pure (by rw[Mj,g1,g3,bind_some,bind_some,g2];rfl) k2 (by rw[he])
 | lookup t x k ok=>
  obtain⟨x',hx,hop⟩:=bind_eq_some_iff.1 hop;obtain⟨i',hi,hop⟩:=bind_eq_some_iff.1 hop;obtain⟨v,hv,he⟩:=au hop;obtain⟨p,g1,k1⟩:=bL hF hx;obtain⟨q,g3,k3⟩:=bL hF hi;obtain⟨y,g2,k2⟩:=GW hR k1 k3 hv;exact pure (by rw[Kj,g1,g3,bind_some,bind_some,g2];rfl) k2 (by rw[he])
 | mapUpdate t m k x=>
  obtain⟨m',hm,hop⟩:=bind_eq_some_iff.1 hop;obtain⟨k',hk,hop⟩:=bind_eq_some_iff.1 hop;obtain⟨x',hx,hop⟩:=bind_eq_some_iff.1 hop;obtain⟨S2,hS,he⟩:=au hop;cases he;obtain⟨p,g1,k1⟩:=bL hF hm;obtain⟨q,g2,k2⟩:=bL hF hk;obtain⟨y,g3,k3⟩:=bL hF hx;obtain⟨h',e1,e2⟩:=xO hR k1 k2 k3 hS;refine⟨none,h',θ,?_,e2,by rw[VS];rfl,λv x h=>h⟩;rw[Ch,g1,g2,g3];simp only[bind_some,e1,map_some]
 | insert t m k x=>
  obtain⟨m',hm,hop⟩:=bind_eq_some_iff.1 hop;obtain⟨k',hk,hop⟩:=bind_eq_some_iff.1 hop;obtain⟨x',hx,hop⟩:=bind_eq_some_iff.1 hop;obtain⟨S2,hS,he⟩:=au hop;cases he;obtain⟨p,g1,k1⟩:=bL hF hm;obtain⟨q,g2,k2⟩:=bL hF hk;obtain⟨y,g3,k3⟩:=bL hF hx;obtain⟨h',e1,e2⟩:=xO hR k1 k2 k3 hS;refine⟨none,h',θ,?_,e2,by rw[VS];rfl,λv x h=>h⟩;simp only[ef,g1,g2,g3,bind_some,e1,map_some]
 | extract x i=>
  simp only[db] at hop;split at hop
  ·rename_i vs hx;obtain⟨v,hv,he⟩:=au hop;obtain⟨p,g1,k1⟩:=bL hF hx;rw[VS] at k1;obtain⟨aS,rfl,k1⟩:=k1;obtain⟨y,g2,k2⟩:=k1.get hv;refine pure (y:=y) ?_ k2 (by rw[he]);rw[Hb,g1];simp only[Ax,g2,map_some]
  ·cases hop
 | call c=>
  obtain⟨callee,args,ats⟩:=c
  cases callee with
  | builtin b=>
   obtain⟨xs,hxs,hop⟩:=bind_eq_some_iff.1 hop;obtain⟨p,g1,k1⟩:=kq hF hxs;obtain⟨z,h',θ',e1,e2,e3,e4⟩:=DE hR k1 hop;refine⟨some z,h',θ',?_,e2,e3,e4⟩;rw[Ha,g1,bind_some,e1];rfl
  | _=>simp[db] at hop
 | _=>simp[db] at hop
end
end Go.Ev
