/- Lemmas of this claim, each with its conditions. -/
import Derived.Test.YtchdmmkclcnmnaaGreatA32
import Derived.Test.YtchdmmkclcnmnaaGreatA22
import Derived.Test.YtchdmmkclcnmnaaGreatA19
import Derived.Test.YtchdmmkclcnmnaaGreatA18
import Derived.Test.YtchdmmkclcnmnaaGreatA17
import Derived.Test.YtchdmmkclcnmnaaGreatA13
import Derived.Test.YtchdmmkclcnmnaaGreatA8
set_option linter.all false
open List (mem_cons length_nil map_nil map_set mem_map)
open Prod (ext)
open Nat (beq blt)
open List renaming length_map -> aa, getElem?_map -> ac, map_cons -> aj, filter_cons -> al, mem_cons_of_mem -> ax, getElem?_set -> ay, sum_cons -> aR, ext_getElem? -> aS, mem_of_getElem? -> a0, mem_cons_self -> a3, map_append -> a5, nodup_cons -> a6, getElem?_eq_none -> a7, getD_eq_getElem?_getD -> ba, mem_map_of_mem -> bb, foldl_cons -> bc, getElem?_eq_getElem -> bd, map_map -> bh, not_mem_nil -> bi, take_length -> bk, length_filter_le -> bo, filter_append -> bt, length_append -> bv, foldl_append -> bx
open Option renaming bind_some -> ad, map_some -> a8
open Bool renaming false_eq_true -> ap, and_eq_true -> a9, not_eq_true' -> bw, and_true -> b5
open Int renaming ofNat -> a4
open Nat renaming reduceEqDiff -> be, reduceLeDiff -> bN, le_refl -> b0, reduceAdd -> b3, reduceMul -> b4, reduceLT -> b6, sub_zero -> b7
namespace Go.Ev
noncomputable section
section
variable {P:Program} {ro:Option Nat} {all:List Oper} {o:Oper} {l:List Oper} {f:Fm} {S:List SO} {n d oo i:Nat} {ds:List iV} {K:eB->Prop} {x y s:Operand} {ks:List AV} {vs:List SV} {b:Option (List Nat×Nat)} {tt kt et:TypeId} {kv v w:SV} {ka k0:AV}
def aI.UB(hst:eP all n [o]=true)(hop:o.op=.mapEntry tt x y)(hdst:o.dst=some d)(hw:db all f o.guard=some true)(hx:eF f x=some (.map oo))(hy:eF f y=some kv)(hf:cG kv=some ka)(hS:S[oo]?=some (.map ks vs b))
 (hm:cW P tt=some (kt,et)) (hkey:tG P kt ka=true) (hfd:qn P kt ka ks 0=some (some i)) (hk0:ks[i]?=some k0) (hst0:stays ka k0=true) (hv:vs[i]?=some v)
 (hk:∀(bs:List Nat) (c sb:Nat),(∀p,b=some p->(bs,c)=p)->bs[i]?=some sb->aI P ro all l ⟨(d,.bE [v,.a (.int .i64 (a4 sb))])::f,n,S.set oo (.map (ks.set i ka) vs (some (bs,c))),ds⟩ K):aI P ro all (o::l) ⟨f,n,S,ds⟩ K:=by
 rintro ρ0 h0 ⟨af,n',h,ds'⟩ ⟨rfl,rfl,θ,ρ,hR,hF⟩
 have hd:blt d n'=true:=by
  have:=(ez hst).1;rw[hdst] at this;exact this
 obtain⟨a,ha,kx⟩:=bG hF hx;rw[VS] at kx;subst kx;obtain⟨a2,ha2,ky⟩:=bG hF hy;have:=gZ ky hf;subst this;obtain⟨_,lm,c,q1,⟨q2,qb,qp⟩,q3⟩:=hR.obj oo _ hS (λh=>by cases h)
 have hmo:h.mapOf (θ oo).id=some (lm,c):=by unfold H.mapOf;rw[q1]
 have hk0':=hk0;rw[<-q2,ac] at hk0';obtain⟨e3,he3,rfl⟩:=aq hk0';obtain⟨z,hz,kz⟩:=q3.get hv;rw[ac,he3] at hz;cases hz
 have hb:(setAt (a2,e3.2.1,e3.2.2) lm i).map (·.2.2)=lm.map (·.2.2):=by
  rw[iF];apply aS;intro j;rw[ay];split
  ·rename_i e;subst e;split
   ·rw[ac,he3];rfl
   ·rename_i hl;rw[aa] at hl;rw[a7 (by rw[aa];omega)]
  ·rfl
 have hvv:(setAt (a2,e3.2.1,e3.2.2) lm i).map (·.2.1)=lm.map (·.2.1):=by
  rw[iF];apply aS;intro j;rw[ay];split
  ·rename_i e;subst e;split
   ·rw[ac,he3];rfl
   ·rename_i hl;rw[aa] at hl;rw[a7 (by rw[aa];omega)]
  ·rfl
 have hrun:eg P (dj af n') h (.mapEntry tt x y)=some [(some (.bE [e3.2.1,.int .i64 (a4 e3.2.2)]),h.set (θ oo).id (.map (setAt (a2,e3.2.1,e3.2.2) lm i) c))]:=by
  rw[wC,show ev (dj af n') x=_ from ha,show ev (dj af n') y=_ from ha2];simp only[ad];unfold mA;rw[hm,ad];simp only;rw[hkey,ai,hmo,ad];simp only;rw[oF,q2,hfd,ad];simp only;rw[he3,ad,hst0,ai];rfl
 refine .v hop hdst (cK hF (dN hst hw)) rfl hd hrun ?_;refine hk (lm.map (·.2.2)) c e3.2.2 (λp hp=>ext (qp p hp).1 (qp p hp).2) (by rw[ac,he3];rfl) ρ0 h0 _ ⟨rfl,rfl,θ,ρ,hR.Mb hS ⟨by rw[iF,q2],qb.DJ hb,λp hp=>by cases hp;exact⟨hb,rfl⟩⟩ (by rw[hvv];exact q3),hF.put (fW hd) ?_⟩;rw[VS];refine⟨_,rfl,?_⟩;rw[aK];refine⟨_,_,rfl,kz,?_⟩;rw[aK];exact⟨_,_,rfl,by rw[VS],by rw[aQ]⟩
def aI.UA{z:AV}(hst:eP all n [o]=true)(hop:o.op=.mapEntry tt x y)(hdst:o.dst=some d)(hw:db all f o.guard=some true)(hx:eF f x=some (.map oo))(hy:eF f y=some kv)(hf:cG kv=some ka)(hS:S[oo]?=some (.map ks vs b))
 (hm:cW P tt=some (kt,et)) (hkey:tG P kt ka=true) (hfd:qn P kt ka ks 0=some none) (hz:du P et=some z)
 (hk:∀(bs:List Nat) (c:Nat),(∀p,b=some p->(bs,c)=p)->bs.length=ks.length->aI P ro all l ⟨(d,.bE [.a z,.a (.int .i64 (a4 c))])::f,n,S.set oo (.map (ks++[ka]) (vs++[.a z]) (some (bs++[c],c+1))),ds⟩ K):aI P ro all (o::l) ⟨f,n,S,ds⟩ K:=by
 rintro ρ0 h0 ⟨af,n',h,ds'⟩ ⟨rfl,rfl,θ,ρ,hR,hF⟩
 have hd:blt d n'=true:=by
  have:=(ez hst).1;rw[hdst] at this;exact this
 obtain⟨a,ha,kx⟩:=bG hF hx;rw[VS] at kx;subst kx;obtain⟨a2,ha2,ky⟩:=bG hF hy;have:=gZ ky hf;subst this;obtain⟨_,lm,c,q1,⟨q2,qb,qp⟩,q3⟩:=hR.obj oo _ hS (λh=>by cases h)
 have hmo:h.mapOf (θ oo).id=some (lm,c):=by unfold H.mapOf;rw[q1]
 have hrun:eg P (dj af n') h (.mapEntry tt x y)=some [(some (.bE [z,.int .i64 (a4 c)]),h.set (θ oo).id (.map (lm++[(a2,z,c)]) (c+1)))]:=by
  rw[wC,show ev (dj af n') x=_ from ha,show ev (dj af n') y=_ from ha2];simp only[ad];unfold mA;rw[hm,ad];simp only;rw[hkey,ai,hmo,ad];simp only;rw[oF,q2,hfd,ad];simp only;rw[hz];rfl
 refine .v hop hdst (cK hF (dN hst hw)) rfl hd hrun ?_;refine hk (lm.map (·.2.2)) c (λp hp=>ext (qp p hp).1 (qp p hp).2) (by rw[aa,<-q2,aa]) ρ0 h0 _ ⟨rfl,rfl,θ,ρ,hR.Mb hS ⟨by rw[a5,q2];rfl,qb.snoc _ _,λp hp=>by cases hp;exact⟨by rw[a5];rfl,rfl⟩⟩ ?_,hF.put (fW hd) ?_⟩
 ·rw[a5];refine q3.app ?_;rw[aj,map_nil,aK];exact⟨_,[],rfl,by rw[VS],by rw[aQ]⟩
 ·rw[VS];refine⟨_,rfl,?_⟩;rw[aK];refine⟨_,_,rfl,by rw[VS],?_⟩;rw[aK];exact⟨_,_,rfl,by rw[VS],by rw[aQ]⟩
def BH{sb:Nat}:∀{es:List (AV×AV×Nat)} {i k:Nat},(es.map (·.2.2)).Nodup->(es.map (·.2.2))[i]?=some sb->iP sb es k=some (k+i)
 | [],i,k,_,h=>by simp at h
 | e::es,0,k,_,h=>by
  simp only[aj,List.getElem?_cons_zero,Option.some.injEq] at h;rw[iP,h,Nat.beq_refl];rfl
 | e::es,i+1,k,hn,h=>by
  rw[aj,a6] at hn;have hne:¬e.2.2=sb:=λe'=>hn.1 (e'▸a0 (by simpa using h))
  have:beq e.2.2 sb=false:=by
   cases hb:beq e.2.2 sb
   ·rfl
   ·exact t8 (cU hb) hne
  rw[iP,this,an,BH hn.2 (by simpa using h)]
  congr 1;omega
def aI.es{sb:Nat}{bs:List Nat}{c:Nat}(hst:eP all n [o]=true)(hop:o.op=.entryStore tt x s y)(hdst:o.dst=none)(hw:db all f o.guard=some true)(hx:eF f x=some (.map oo))(hs:eF f s=some (.a (.int .i64 (a4 sb))))(hy:eF f y=some w)(hS:S[oo]?=some (.map ks vs (some (bs,c))))
 (hi:bs[i]?=some sb) (hk:aI P ro all l ⟨f,n,S.set oo (.map ks (vs.set i w) (some (bs,c))),ds⟩ K):aI P ro all (o::l) ⟨f,n,S,ds⟩ K:=by
 rintro ρ0 h0 ⟨af,n',h,ds'⟩ ⟨rfl,rfl,θ,ρ,hR,hF⟩;obtain⟨a,ha,kx⟩:=bG hF hx;rw[VS] at kx;subst kx;obtain⟨a1,ha1,k1⟩:=bG hF hs;rw[VS] at k1;subst k1;obtain⟨a2,ha2,ky⟩:=bG hF hy;obtain⟨_,lm,c',q1,⟨q2,qb,qp⟩,q3⟩:=hR.obj oo _ hS (λh=>by cases h);obtain⟨hbs,rfl⟩:=qp _ rfl;simp only at hbs
 have hmo:h.mapOf (θ oo).id=some (lm,c'):=by unfold H.mapOf;rw[q1]
 rw[<-hbs] at hi;have hba:=BH (k:=0) qb.1 hi;rw[Nat.zero_add] at hba;rw[ac] at hi;obtain⟨e3,he3,rfl⟩:=aq hi
 have same:∀g:AV×AV×Nat->AV×Nat,(∀e,g e=(e.1,e.2.2))->(setAt (e3.1,a2,e3.2.2) lm i).map g=lm.map g:=by
  intro g hg;rw[iF];apply aS;intro j;rw[ay];split
  ·rename_i e;subst e;split
   ·rw[ac,he3];simp only[hg,a8]
   ·rename_i hl;rw[aa] at hl;rw[a7 (by rw[aa];omega)]
  ·rfl
 have s0:=same (λe=>(e.1,e.2.2)) λ_=>rfl
 have s1:(setAt (e3.1,a2,e3.2.2) lm i).map (·.1)=lm.map (·.1):=by
  have:=congrArg (List.map Prod.fst) s0;rw[bh,bh] at this;exact this
 have s2:(setAt (e3.1,a2,e3.2.2) lm i).map (·.2.2)=lm.map (·.2.2):=by
  have:=congrArg (List.map Prod.snd) s0;rw[bh,bh] at this;exact this
 have hrun:eg P (dj af n') h (.entryStore tt x s y)=some [(none,h.set (θ oo).id (.map (setAt (e3.1,a2,e3.2.2) lm i) c'))]:=by
  rw[Bc,show ev (dj af n') x=_ from ha,show ev (dj af n') s=_ from ha1,show ev (dj af n') y=_ from ha2];simp only[ad];unfold lg;simp only;rw[hmo,ad];simp only;rw[show di (.int .i64 (a4 e3.2.2))=some e3.2.2 from jY _ _,ad,hba,ad,he3];rfl
 refine .u hop hdst (cK hF (dN hst hw)) rfl hrun ?_;exact hk ρ0 h0 _ ⟨rfl,rfl,θ,ρ,hR.Mb hS ⟨by rw[s1,q2],qb.DJ s2,λp hp=>by cases hp;exact⟨by rw[s2,hbs],rfl⟩⟩ (by rw[iF];exact q3.set i ky),hF⟩
end
section
variable {P:Program} {ro:Option Nat} {all:List Oper} {o:Oper} {ol:List Oper} {f:Fm} {S:List SO} {n d oo:Nat} {ds:List iV} {Q:eB->Prop} {x y s:Operand} {tt kt et:TypeId} {K U:Type} [DecidableEq K] {kv:K->AV} {uv:U->SV} {l:List (K×U)} {k:K} {u0:U} {ky:SV} {z:AV}
def jf(kv:K->AV)(uv:U->SV)(l:List (K×U))(b:Option (List Nat×Nat)):SO:=.map (l.map λe=>kv e.1) (l.map λe=>uv e.2) b
def aI.TO{b:List Nat×Nat}{sb:Nat}{u:U}(hst:eP all n [o]=true)(hop:o.op=.entryStore tt x s y)(hdst:o.dst=none)(hw:db all f o.guard=some true)(hx:eF f x=some (.map oo))(hs:eF f s=some (.a (.int .i64 (a4 sb))))(hy:eF f y=some (uv u))
 (hS:S[oo]?=some (jf kv uv (fQ u0 k l) (some b))) (hi:b.1[Gy k l]?=some sb) (hQ:aI P ro all ol ⟨f,n,S.set oo (bz kv uv (cw k u l)),ds⟩ Q):aI P ro all (o::ol) ⟨f,n,S,ds⟩ Q:=by
 obtain⟨p1,p2,u1,p3⟩:=Mt (u0:=u0) (l:=l) k u;refine aI.es (w:=uv u) hst hop hdst hw hx hs hy hS hi ?_;have hlt:=bD hS;refine aI.fg (Fg.JY oo (by rw[ay,ul rfl,ul hlt])) ?_;rw[List.set_set]
 have e1:((fQ u0 k l).map λe=>uv e.2).set (Gy k l) (uv u)=(cw k u l).map λe=>uv e.2:=by rw[<-p1,map_set]
 have e2:((fQ u0 k l).map λe=>kv e.1)=(cw k u l).map λe=>kv e.1:=by
  rw[<-p1,map_set];apply aS;intro j;rw[ay];split
  ·rename_i e;subst e;rw[ac,p3];simp only[a8];rw[ul (by rw[aa];exact p2)]
  ·rfl
 rw[e1,e2];exact hQ
def ot(b:List Nat×Nat)(k:K)(l:List (K×U)):Nat:=match oT k l 0 with
 | some i=>b.1.getD i 0
 | none=>b.2
def iU(b:List Nat×Nat)(k:K)(l:List (K×U)):List Nat×Nat:=if dy k l then b else (b.1++[b.2],b.2+1)
def vW{b:List Nat×Nat}(hb:b.1.length=l.length):(iU b k l).1[Gy k l]?=some (ot b k l):=by
 unfold iU Gy ot
 cases hp:oT k l 0 with
 | none=>
  rw[iH hp];simp only[ap,if_false];rw[List.getElem?_append_right (by omega),hb,Nat.sub_self];rfl
 | some i=>
  obtain⟨_,u,h2,_,_,h5⟩:=gC hp;rw[b7] at h2;rw[h5];simp only[if_true];have:=bD h2;rw[ba,bd (by omega)];rfl
def aI.TV{b:List Nat×Nat}(hst:eP all n [o]=true)(hop:o.op=.mapEntry tt x y)(hdst:o.dst=some d)(hw:db all f o.guard=some true)(hx:eF f x=some (.map oo))(hy:eF f y=some ky)(hf:cG ky=some (kv k))(hS:S[oo]?=some (jf kv uv l (some b)))
 (hm:cW P tt=some (kt,et)) (hk:Keys P kt kv) (hz:du P et=some z) (hu:SV.a z=uv u0)
 (hQ:aI P ro all ol ⟨(d,.bE [uv (getM u0 k l),.a (.int .i64 (a4 (ot b k l)))])::f,n,S.set oo (jf kv uv (fQ u0 k l) (some (iU b k l))),ds⟩ Q):aI P ro all (o::ol) ⟨f,n,S,ds⟩ Q:=by
 have hfd:=mz hk k l 0
 cases hp:oT k l 0 with
 | none=>
  have hn:=iH hp;rw[hp] at hfd
  have ht:fQ u0 k l=l++[(k,u0)]:=by unfold fQ;rw[hn];rfl
  refine aI.UA hst hop hdst hw hx hy hf hS hm (hk.ck k) hfd hz λbs c he hb=>?_;have e:=he _ rfl;subst e
  have e1:ot (bs,c) k l=c:=by unfold ot;rw[hp]
  have e2:iU (bs,c) k l=(bs++[c],c+1):=by unfold iU;rw[hn];rfl
  rw[ht,qu hn,e1,e2] at hQ;simp only[jf,a5,aj,map_nil] at hQ;rw[hu];exact hQ
 | some i=>
  obtain⟨_,u,h2,h3,_,h5⟩:=gC hp;rw[b7] at h2;rw[hp] at hfd
  have ht:fQ u0 k l=l:=by unfold fQ;rw[h5];rfl
  refine aI.UB hst hop hdst hw hx hy hf hS hm (hk.ck k) hfd (k0:=kv k) (by rw[ac,h2];rfl) (hk.st k) (v:=uv u) (by rw[ac,h2];rfl) λbs c sb he hb=>?_;have e:=he _ rfl;subst e
  have e1:ot (bs,c) k l=sb:=by unfold ot;rw[hp];simp only;rw[ba,hb];rfl
  have e2:iU (bs,c) k l=(bs,c):=by unfold iU;rw[h5];rfl
  rw[ht,h3 u0,e1,e2] at hQ
  have hset:(l.map λe=>kv e.1).set i (kv k)=l.map λe=>kv e.1:=by
   apply aS;intro j;rw[ay];split
   ·rename_i e;subst e;rw[ac,h2];simp only[a8];rw[ul (by rw[aa];exact bD h2)]
   ·rfl
  rw[hset];exact hQ
end
def ar.born{P:Program}{ro:Option Nat}{f:Fm}{S:List SO}{n:Nat}{ds:List iV}{x:Code}{Q:Ex->eB->Prop}{ks:List AV}{vs:List SV}{b:Option (List Nat×Nat)}(oo:Nat)(hS:S[oo]?=some (.map ks vs b))
 (h:∀bs c,bs.length=ks.length->ar P ro x ⟨f,n,S.set oo (.map ks vs (some (bs,c))),ds⟩ Q):ar P ro x ⟨f,n,S,ds⟩ Q:=by
 rintro ρ0 h0 ⟨af,n',hh,ds'⟩ ⟨rfl,rfl,θ,ρ,hR,hF⟩;obtain⟨_,lm,c,h1,h2,h3⟩:=hR.obj oo _ hS (λh=>by cases h);have hR0:RS θ ρ0 ρ h0 hh (S.set oo (.map ks vs (some (lm.map (·.2.2),c)))):=hR.T2 hS (λh=>by cases h) λ_=>⟨lm,c,h1,⟨h2.1,h2.2.1,λp hp=>by cases hp;exact⟨rfl,rfl⟩⟩,h3⟩;exact h _ _ (by rw[aa,<-h2.1,aa]) ρ0 h0 _ ⟨rfl,rfl,θ,ρ,hR0,hF⟩
end
end Go.Ev
namespace Go.Proofs
open Go.Ev
set_option maxRecDepth 100000
abbrev Pr:=List Nat×List Nat
structure Xf where
 fr:List Nat
 to:List Nat
 am:Int
 deriving DecidableEq
def bj(t:Xf):List SV:=[ae t.fr,ae t.to,ab t.am]
def gz(p:Pr):AV:=.agg [.str p.1,.str p.2]
abbrev c9:=List (Pr×Int)
def kF(n:Int)(m:c9)(t:Xf):c9:=cw (t.fr,t.to) (getM 0 (t.fr,t.to) m+n*t.am) m
def xY(a b:Xf):Bool:=gJ a.fr b.fr||(decide (a.fr=b.fr)&&gJ a.to b.to)
def Dw(a b:Xf):Bool:=!xY b a
def LU(x:Xf):List Xf->List Xf
 | []=>[x]
 | y::l=>if Dw x y then x::y::l else y::LU x l
def gF:List Xf->List Xf
 | []=>[]
 | x::l=>LU x (gF l)
def RX(e:Pr×Int):Xf:=⟨e.1.1,e.1.2,e.2⟩
def iQ(m:c9):List Xf:=(m.filter λe=>decide (0<e.2)).map RX
def dn(m:c9):List Xf×Int:=if m.any (λe=>decide (1000000000000<e.2)) then ([],13) else (gF (iQ m),0)
def vt(x:Xf):∀l,(LU x l).Perm (x::l)
 | []=>.refl _
 | y::l=>by
  rw[LU];split
  ·exact .refl _
  ·exact((vt x l).cons y).trans (.swap x y l)
def eE:∀l,(gF l).Perm l
 | []=>.refl _
 | x::l=>(vt x _).trans ((eE l).cons x)
def DA{k:Pr}{v:Int}:∀{m:c9} {e:Pr×Int},e∈cw k v m->e=(k,v)\/e∈m
 | [],e,h=>by unfold cw at h;exact .inl (List.mem_singleton.1 h)
 | a::m,e,h=>by
  unfold cw at h;split at h
  ·rcases mem_cons.1 h with rfl | h
   ·exact .inl rfl
   ·exact .inr (ax _ h)
  ·rcases mem_cons.1 h with rfl | h
   ·exact .inr a3
   ·exact(DA h).imp id (ax _)
def Dz(a b:Xf):xY a b=true\/(a.fr=b.fr/\a.to=b.to)\/xY b a=true:=by
 unfold xY
 rcases ma a.fr b.fr with h | h | h
 ·exact .inl (by rw[h];rfl)
 ·rcases ma a.to b.to with g | g | g
  ·exact .inl (by rw[h,g];simp)
  ·exact .inr (.inl ⟨h,g⟩)
  ·exact .inr (.inr (by rw[h,g];simp))
 ·exact .inr (.inr (by rw[h];rfl))
def rq{a b c:Xf}(h1:xY a b=true)(h2:xY b c=true):xY a c=true:=by
 unfold xY at *;simp only[Bool.or_eq_true,a9,wr] at *
 rcases h1 with h1 | ⟨e1,h1⟩<;>rcases h2 with h2 | ⟨e2,h2⟩
 ·exact .inl (jx h1 h2)
 ·exact .inl (e2▸h1)
 ·exact .inl (e1▸h2)
 ·exact .inr ⟨e1.trans e2,jx h1 h2⟩
def Oc{a b:Xf}(h:a.fr=b.fr/\a.to=b.to)(c:Xf):xY a c=xY b c/\xY c a=xY c b:=by
 unfold xY;rw[h.1,h.2];exact⟨rfl,rfl⟩
def Ky(a:Xf):xY a a=false:=by unfold xY;rw[kO,kO];simp
def L0(a b c:Xf)(h1:Dw a b=true)(h2:Dw b c=true):Dw a c=true:=by
 unfold Dw at *;simp only[bw] at *;cases h:xY c a
 ·rfl
 ·rcases Dz a b with g | g | g
  ·have:=rq h g;rw[h2] at this;cases this
  ·rw[(Oc g c).2,h2] at h;cases h
  ·rw[h1] at g;cases g
def LZ(a b:Xf):(Dw a b||Dw b a)=true:=by
 unfold Dw;cases h:xY b a
 ·rfl
 ·cases g:xY a b
  ·rfl
  ·have:=rq h g;rw[Ky] at this;cases this
def N5{a b:Xf}(h1:Dw a b=true)(h2:Dw b a=true):a.fr=b.fr/\a.to=b.to:=by
 unfold Dw at h1 h2;simp only[bw] at h1 h2
 rcases Dz a b with g | g | g
 ·rw[h2] at g;cases g
 ·exact g
 ·rw[h1] at g;cases g
def wz(x:Xf):∀l,l.Pairwise (λa b=>Dw a b=true)->(LU x l).Pairwise λa b=>Dw a b=true
 | [],_=>List.pairwise_singleton ..
 | y::l,h=>by
  obtain⟨h1,h2⟩:=List.pairwise_cons.1 h;rw[LU];split
  ·rename_i g;refine List.pairwise_cons.2 ⟨λz hz=>?_,h⟩
   rcases mem_cons.1 hz with rfl | hz
   ·exact g
   ·exact L0 _ _ _ g (h1 z hz)
  ·rename_i g;refine List.pairwise_cons.2 ⟨λz hz=>?_,wz x l h2⟩
   rcases mem_cons.1 ((vt x l).mem_iff.1 hz) with rfl | hz
   ·have:=LZ z y;rw[show Dw z y=false by simpa using g] at this;simpa using this
   ·exact h1 z hz
def k7:∀l,(gF l).Pairwise λa b=>Dw a b=true
 | []=>.nil
 | x::l=>wz x _ (k7 l)
def A7(t:Xf):Pr:=(t.fr,t.to)
def nodup_keys{l:List Xf}(hn:(l.map A7).Nodup){a b:Xf}(ha:a∈l)(hb:b∈l)(h:A7 a=A7 b):a=b:=by
 induction l with
 | nil=>cases ha
 | cons x l ih=>
  rw[aj,a6] at hn
  rcases mem_cons.1 ha with ha' | ha'<;>rcases mem_cons.1 hb with hb' | hb'
  ·rw[ha',hb']
  ·exact t8 (by rw[<-ha',h];exact bb hb') hn.1
  ·exact t8 (by rw[<-hb',<-h];exact bb ha') hn.1
  ·exact ih hn.2 ha' hb'
def qQ{l q:List Xf}(hn:(l.map A7).Nodup)(hp:q.Perm l)(hs:q.Pairwise λa b=>xY b a=false):q=gF l:=by
 have h1:q.Pairwise λa b=>Dw a b=true:=hs.imp λh=>by unfold Dw;rw[h];rfl
 refine List.Perm.eq_of_pairwise (λa b ha hb g1 g2=>?_) h1 (k7 l) (hp.trans (eE l).symm);obtain⟨e1,e2⟩:=N5 g1 g2;exact nodup_keys hn (hp.mem_iff.1 ha) ((eE l).mem_iff.1 hb) (ext e1 e2)
def vL(m:c9)(hn:(m.map (·.1)).Nodup):((iQ m).map A7).Nodup:=by
 have:(iQ m).map A7=(m.filter λe=>decide (0<e.2)).map (·.1):=by
  unfold iQ;rw[bh];rfl
 rw[this];exact hn.sublist (List.filter_sublist.map _)
def qJ{k:Pr}{v:Int}:∀{m:c9},(m.map (·.1)).Nodup->((cw k v m).map (·.1)).Nodup
 | [],_=>by unfold cw;simp
 | e::m,h=>by
  rw[aj,a6] at h;unfold cw;split
  ·rename_i hk;rw[aj,a6,hk];exact h
  ·rename_i hk;rw[aj,a6];refine⟨λhm=>?_,qJ h.2⟩;obtain⟨x,hx,e1⟩:=mem_map.1 hm
   rcases DA hx with rfl | hx
   ·exact hk e1
   ·exact h.1 (e1▸bb hx)
def e9(ss:List Sh)(own:List Nat)(m:c9):c9:=ss.foldl (λm y=>if y.pt=own then m else kF 1 m ⟨y.pt,own,y.am⟩) m
def gy(c:List aP)(dmg:bB)(ws:List Wy)(l:List bu)(costs:List Co)(m:c9):c9:=costs.foldl (λm co=>if (fP c dmg ws l co).2.2=0 then e9 (fP c dmg ws l co).1 co.owner m else m) m
def pR(to:List Nat)(m:c9):Int:=((m.filter λe=>decide (e.1.2=to)).map (·.2)).sum
def kq(to:List Nat)(l:List Xf):Int:=((l.filter λt=>decide (t.to=to)).map Xf.am).sum
def jX(to:List Nat)(costs:List Co):Int:=((costs.filter λco=>decide (co.owner=to)&&co.ok).map Co.am).sum
def FQ(to:List Nat)(k:Pr)(v:Int):∀m:c9,pR to (cw k v m)=pR to m+(if k.2=to then v-getM 0 k m else 0)
 | []=>by
  unfold cw pR getM;by_cases h:k.2=to<;>simp[h]
 | e::m=>by
  have ih:=FQ to k v m;unfold pR at ih ⊢;rw[cw,getM];by_cases hk:k=e.1
  ·rw[ul hk,ul hk];by_cases h:k.2=to
   ·have h2:e.1.2=to:=by rw[<-hk];exact h
    simp only[List.filter_cons,h,h2,decide_true,if_true,List.map_cons,List.sum_cons];omega
   ·have h2:¬e.1.2=to:=by rw[<-hk];exact h
    simp only[List.filter_cons,h,h2,decide_false,Bool.false_eq_true,if_false];omega
  ·rw[un hk,un hk];by_cases h2:e.1.2=to
   ·simp only[List.filter_cons,h2,decide_true,if_true,List.map_cons,List.sum_cons];rw[ih];omega
   ·simp only[List.filter_cons,h2,decide_false,Bool.false_eq_true,if_false];exact ih
def NT(to:List Nat)(n:Int)(m:c9)(t:Xf):pR to (kF n m t)=pR to m+(if t.to=to then n*t.am else 0):=by
 unfold kF;rw[FQ];split<;>omega
structure H6 (ws:List Wy) (costs:List Co) (m:c9):Prop where
 TN:∀e∈m,0<=e.2/\(∃w∈ws,w.cH=e.1.1)/\∃co∈costs,co.owner=e.1.2/\co.ok=true
 most:∀to,pR to m<=jX to costs
def Ry{m:c9}(h:∀e∈m,0<=e.2)(k:Pr):0<=getM 0 k m:=by
 induction m with
 | nil=>exact Int.le_refl 0
 | cons a m ih=>
  rw[getM];split
  ·exact h _ a3
  ·exact ih λe he=>h e (ax _ he)
def Qe{n:Int}{m:c9}{t:Xf}{e:Pr×Int}(h:e∈kF n m t):e=((t.fr,t.to),getM 0 (t.fr,t.to) m+n*t.am)\/e∈m:=DA h
def zW{ws:List Wy}{costs:List Co}{co:Co}(hco:co.ok=true):∀{ss:List Sh} {m:c9},(∀s∈ss,0<s.am/\(s.pt=co.owner\/∃w∈ws,s.pt=w.cH))->(∀e∈m,0<=e.2/\(∃w∈ws,w.cH=e.1.1)/\∃x∈costs++[co],x.owner=e.1.2/\x.ok=true)->
 (∀e∈e9 ss co.owner m,0<=e.2/\(∃w∈ws,w.cH=e.1.1)/\∃x∈costs++[co],x.owner=e.1.2/\x.ok=true)/\∀to,pR to (e9 ss co.owner m)<=pR to m+(if co.owner=to then (ss.map Sh.am).sum else 0)
 | [],m,_,hm=>⟨hm,λto=>by show pR to m<=_;split<;>simp⟩
 | y::ss,m,hs,hm=>by
  obtain⟨h1,h2⟩:=hs y List.mem_cons_self;have hr:=λs hs'=>hs s (List.mem_cons_of_mem _ hs');by_cases hy:y.pt=co.owner
  ·have e:e9 (y::ss) co.owner m=e9 ss co.owner m:=by unfold e9;rw[List.foldl_cons,ul hy]
   rw[e];obtain⟨g1,g2⟩:=zW (costs:=costs) hco (ss:=ss) hr hm;refine⟨g1,λto=>?_⟩;have:=g2 to;rw[List.map_cons,List.sum_cons];split at this<;>rename_i hh
   ·rw[ul hh];omega
   ·rw[un hh];omega
  ·have e:e9 (y::ss) co.owner m=e9 ss co.owner (kF 1 m ⟨y.pt,co.owner,y.am⟩):=by unfold e9;rw[List.foldl_cons,un hy]
   rw[e]
   obtain⟨g1,g2⟩:=zW (costs:=costs) hco (ss:=ss) (m:=kF 1 m ⟨y.pt,co.owner,y.am⟩) hr (by
    intro x hx
    rcases Qe hx with rfl | hx
    ·refine⟨?_,?_,co,by simp,rfl,hco⟩
     ·have:=Ry (λe he=>(hm e he).1) (y.pt,co.owner);show 0<=getM 0 (y.pt,co.owner) m+1*y.am;omega
     ·obtain⟨w,hw,e⟩:=h2.resolve_left hy;exact⟨w,hw,e.symm⟩
    ·exact hm x hx)
   refine⟨g1,λto=>?_⟩;have:=g2 to;rw[NT] at this;simp only at this;rw[List.map_cons,List.sum_cons];split at this<;>rename_i hh
   ·rw[ul hh];omega
   ·rw[un hh];omega
def zj(to:List Nat)(costs:List Co)(co:Co):jX to (costs++[co])=jX to costs+(if (decide (co.owner=to)&&co.ok)=true then co.am else 0):=by
 unfold jX;rw[bt,a5,List.sum_append]
 congr 1
 cases h:(decide (co.owner=to)&&co.ok)
 ·simp[al,h]
 ·simp[al,h]
def KF{co:Co}(h:co.ok=true):0<=co.am/\co.am<=1000000000000:=by
 unfold Co.ok xp at h;simp only[a9,wr] at h;exact h.2.2.2
def Gv(c:List aP)(dmg:bB)(ws:List Wy)(l:List bu):∀(costs done:List Co) (m:c9),H6 ws done m->H6 ws (done++costs) (gy c dmg ws l costs m)
 | [],done,m,h=>by rw[List.append_nil];exact h
 | co::costs,done,m,h=>by
  have e:gy c dmg ws l (co::costs) m=gy c dmg ws l costs (if (fP c dmg ws l co).2.2=0 then e9 (fP c dmg ws l co).1 co.owner m else m):=rfl;rw[e,show done++co::costs=(done++[co])++costs by simp];refine Gv c dmg ws l costs (done++[co]) _ ?_;have hs:=D7 c dmg ws l co
  have hm:∀e∈m,0<=e.2/\(∃w∈ws,w.cH=e.1.1)/\∃x∈done++[co],x.owner=e.1.2/\x.ok=true:=λe he=>by
   obtain⟨a,b,x,hx,hy⟩:=h.TN e he;exact⟨a,b,x,List.mem_append_left _ hx,hy⟩
  split
  ·rename_i h0
   have hco:co.ok=true:=by
    have:=hs.right h0;unfold ee at this;rw[a9] at this;exact this.2
   obtain⟨g1,g2⟩:=zW (costs:=done) hco (λs hs'=>⟨(hs.am s hs').1,(hs.am s hs').2.2⟩) hm;refine⟨g1,λto=>Int.le_trans (g2 to) ?_⟩;rw[zj,hco,b5];have h1:=h.most to;have h2:=hs.UD h0;split<;>rename_i hh
   ·rw[ul (wd hh)];omega
   ·rw[un (by simpa using hh)];omega
  ·refine⟨hm,λto=>?_⟩;rw[zj];have h1:=h.most to;split
   ·rename_i hh;have:=KF (co:=co) (by rw[a9] at hh;exact hh.2);omega
   ·omega
def Cv(to:List Nat):∀m:c9,(∀e∈m,0<=e.2)->kq to (iQ m)=pR to m
 | [],_=>rfl
 | e::m,h=>by
  have ih:=Cv to m λx hx=>h x (List.mem_cons_of_mem _ hx);have h0:=h e List.mem_cons_self;unfold kq pR iQ at ih ⊢;by_cases hp:0<e.2
  ·by_cases ht:e.1.2=to
   ·simp only[List.filter_cons,hp,ht,decide_true,if_true,List.map_cons,RX,List.sum_cons];rw[<-ih]
   ·simp only[List.filter_cons,hp,ht,decide_true,decide_false,if_true,List.map_cons,RX,Bool.false_eq_true,if_false];exact ih
  ·have hz:e.2=0:=by omega
   by_cases ht:e.1.2=to
   ·simp only[List.filter_cons,hp,ht,decide_true,decide_false,if_true,List.map_cons,Bool.false_eq_true,if_false,List.sum_cons,hz,Int.zero_add];exact ih
   ·simp only[List.filter_cons,hp,ht,decide_false,Bool.false_eq_true,if_false];exact ih
def OG{a b:List Int}(h:a.Perm b):a.sum=b.sum:=by
 induction h with
 | nil=>rfl
 | cons _ _ ih=>rw[aR,aR,ih]
 | swap x y l=>simp only[aR];omega
 | trans _ _ h1 h2=>exact h1.trans h2
def LM(to:List Nat){a b:List Xf}(h:a.Perm b):kq to a=kq to b:=by
 unfold kq;exact OG ((h.filter _).map _)
def Ps(c:List aP)(dmg:bB)(ws:List Wy)(l:List bu)(costs:List Co){t:Xf}(ht:t∈(dn (gy c dmg ws l costs [])).1):
 (∃w∈ws,w.cH=t.fr)/\(∃co∈costs,co.owner=t.to/\co.ok=true)/\kq t.to (dn (gy c dmg ws l costs [])).1<=jX t.to costs/\1<=t.am:=by
 have hok:H6 ws costs (gy c dmg ws l costs []):=by
  have:=Gv c dmg ws l costs [] [] ⟨λe he=>(bi he).elim,λto=>Int.le_refl _⟩
  rwa [List.nil_append] at this
 generalize gy c dmg ws l costs []=m at ht hok ⊢;unfold dn at ht ⊢;split at ht
 ·cases ht
 rename_i hb;rw[un hb];simp only at ht ⊢;have hp:=eE (iQ m);have hm:=hp.mem_iff.1 ht;unfold iQ at hm;obtain⟨e,he,rfl⟩:=mem_map.1 hm;obtain⟨he1,he2⟩:=List.mem_filter.1 he;have he2:=ww he2;obtain⟨_,h2,h3⟩:=hok.TN e he1;refine⟨h2,h3,?_,by show 1<=e.2;omega⟩;rw[LM _ hp,Cv _ m λe he=>(hok.TN e he).1];exact hok.most _
def zU{own:List Nat}:∀{ss:List Sh} {m:c9},(m.map (·.1)).Nodup->((e9 ss own m).map (·.1)).Nodup
 | [],_,h=>h
 | y::ss,m,h=>by
  unfold e9;rw[bc];refine zU (ss:=ss) ?_;split
  ·exact h
  ·exact qJ h
def zZ{c:List aP}{dmg:bB}{ws:List Wy}{l:List bu}:∀{costs:List Co} {m:c9},(m.map (·.1)).Nodup->((gy c dmg ws l costs m).map (·.1)).Nodup
 | [],_,h=>h
 | co::costs,m,h=>by
  unfold gy;rw[bc];refine zZ (costs:=costs) ?_;split
  ·exact zU h
  ·exact h
def SU(a b:Pr):gT gd [AV.str a.1,.str a.2] [.str b.1,.str b.2]=decide (a=b):=by
 obtain⟨a1,a2⟩:=a;obtain⟨b1,b2⟩:=b;simp only[gT,gd,mG,b5,Prod.mk.injEq,Bool.decide_and]
def uz:Keys Tryz.prog 95 gz:=
 vu (cells:=λp:Pr=>[AV.str p.1,.str p.2]) (ks:=[.s,.s]) (by kernel_rfl) (by simp only[aw,a8]) (λ_=>rfl) SU λ_=>rfl
noncomputable def io(L:Nat->Prop)(i:Nat)(x y:SO):SO:=@ite _ (L i) (Classical.propDecidable _) x y
def od{L:Nat->Prop}{i:Nat}{x y:SO}(h:L i):io L i x y=x:=ul h
def fK{L:Nat->Prop}{i:Nat}{x y:SO}(h:¬L i):io L i x y=y:=un h
def bR(L:Nat->Prop)(i k:Nat)(x y:SO):io (λj=>L j\/j=i) k x y=if k=i then x else io L k x y:=by
 by_cases h:k=i
 ·rw[ul h];exact od (.inr h)
 ·rw[un h];by_cases hl:L k
  ·rw[od hl,od (.inl hl)]
  ·rw[fK hl,fK λh'=>h'.elim hl h]
def kW{S:List SO}{o:Nat}{m:c9}{b:Option (List Nat×Nat)}(p q:List Nat)(hS:S[o]?=some (jf gz ab m b)):dW Tryz.prog S 82 (.map o) (.ag [ae p,ae q]) false=some (ab (getM 0 (p,q) m)):=
 tJ (uv:=ab) (u0:=0) (k:=((p,q):Pr)) (kt:=95) (et:=3) (z:=.int .i64 0) (by simp only[aw]) uz (by simp only[aw]) rfl (by simp only[sy,hS,jf]) rfl false
def jV{n:Nat}{l:c9}:bQ n (bz gz ab l)=bz gz ab l:=kM λ_=>jo _
def tg(ts:List Xf):List SV:=[ak 3 ts bj]
def eY(n:Int)(m:c9)(ts:List Xf):c9:=ts.foldl (kF n) m
def Lm(n:Int)(m:c9)(ts:List Xf)(t:Xf):eY n m (ts++[t])=kF n (eY n m ts) t:=by unfold eY;rw[List.foldl_append];rfl
def fC(B:Int)(m:c9):Prop:=∀k,-B<=getM 0 k m/\getM 0 k m<=B
def fC.add{B n:Int}{m:c9}{t:Xf}(h:fC B m)(hn:n=1\/n = -1)(ht : -1000000000000<=t.am/\t.am<=1000000000000):fC (B+1000000000000) (kF n m t):=by
 intro k;unfold kF;rw[ja];have h1:=h k;have h2:=h (t.fr,t.to);split
 ·rcases hn with rfl | rfl<;>omega
 ·omega
set_option maxHeartbeats 2000000 in
def vY(n:Int)(hn:n=1\/n = -1)(ll:List (List Xf))(mp:c9)(hm:fC 1000000000000000 mp)(hll:ll.length<=10)(hL:∀ts∈ll,ts.length<=1000/\∀t∈ts,-1000000000000<=t.am/\t.am<=1000000000000):
 SC Tryz.prog 22 [.map 0,ab n,ak 1 ll tg] [bz gz ab mp] [] (λr S'=>r=.bE []/\S'=[bz gz ab (ll.foldl (eY n) mp)]):=by
 refine GU 38 Tryz.func22 ?_
 have hlen:ll.length<=1000000:=by omega
 refine zV ?_;refine zs ?_;refine zL ll (λk=>fC (1000000000000000+k*1000000000000000) ((ll.take k).foldl (eY n) mp)) (λk=>[(0,.map 0),(1,ab n),(10,ak 1 ll tg),(11,ab ll.length),(12,ab k),(1000000,.ptr 0 0)]) (λk=>[bz gz ab ((ll.take k).foldl (eY n) mp)]) zH (by intro q;have:=hm q;simp only[List.take_zero,List.foldl_nil];omega) ?_;intro k hk hall;refine zT ll k ?_ ?_;rintro rfl;rotate_left;intro ts hx hlt;rotate_left
 ·refine dZ ?_;simp only[fV,dS,cE,cq,if_true];rw[bk];exact zP []
 refine eQ ?_;obtain⟨hL1,hL2⟩:=hL ts (a0 hx)
 have hlen2:ts.length<=1000000:=by omega
 refine aC (n3 hlt (aG (e:=1) (enc:=tg) (λ_=>rfl) hx) @tg.eq_1) ?_;refine zV ?_;obtain⟨M0,hM0⟩:∃M0,M0=(ll.take k).foldl (eY n) mp:=⟨_,rfl⟩
 have hnext:(ll.take (k+1)).foldl (eY n) mp=eY n M0 ts:=by rw[oY hx,bx,<-hM0];rfl
 rw[<-hM0] at hall ⊢
 have hk10:k<10:=by omega
 clear hM0;refine zs ?_;refine zL ts (λk2=>fC (1000000000000000+k*1000000000000000+k2*1000000000000) (eY n M0 (ts.take k2))) (λk2=>[(0,.map 0),(1,ab n),(10,ak 1 ll tg),(11,ab ll.length),(12,ab k),(16,ak 3 ts bj),(17,ab ts.length),(18,ab k2),(1000000,.ptr 0 0)]) (λk2=>[bz gz ab (eY n M0 (ts.take k2))]) zH (by intro q;have:=hall q;show _<=getM 0 q M0/\getM 0 q M0<=_;omega) ?_;intro k2 hk2 hall2;refine zT ts k2 ?_ ?_;rintro rfl;rotate_left;intro t hx2 hlt2;rotate_left
 ·refine dZ ?_;rw[bk];refine aC (zi hlt hlen) ?_;refine zX hlt (bL hnext) (by rw[hnext];intro q;have h1:=hall2 q;rw[bk] at h1;omega)
 refine eQ ?_;refine aC (n3 hlt2 (aG (e:=3) (enc:=bj) (λ_=>rfl) hx2) @bj.eq_1) ?_;obtain⟨M,hM⟩:∃M,M=eY n M0 (ts.take k2):=⟨_,rfl⟩
 have hnx:eY n M0 (ts.take (k2+1))=kF n M t:=by rw[oY hx2,Lm,<-hM]
 rw[<-hM] at hall2 ⊢;clear hM;obtain⟨fr,to,am⟩:=t;have hta:=hL2 _ (a0 hx2);simp only at hta;obtain⟨g,hg⟩:∃g,g=getM 0 (fr,to) M:=⟨_,rfl⟩;have hgb:=hall2 (fr,to);rw[<-hg] at hgb
 have hmul : -9223372036854775808<=n*am/\n*am<=9223372036854775807:=by rcases hn with rfl | rfl<;>omega
 have hadd : -9223372036854775808<=g+n*am/\g+n*am<=9223372036854775807:=by rcases hn with rfl | rfl<;>omega
 have hput:kF n M ⟨fr,to,am⟩=cw (fr,to) (g+n*am) M:=by unfold kF;rw[hg]
 refine ar.fg (st':=⟨[(9,.ptr 1 0),(0,.map 0),(1,ab n),(10,ak 1 ll tg),(11,ab ll.length),(12,ab k),(16,ak 3 ts bj),(17,ab ts.length),(18,ab k2),(1000000,.ptr 0 0)],38,[bz gz ab M,.cells [ae fr,ae to,ab am]],[]⟩) (bL @jV) ?_;refine ar.born 0 rfl λbs c hbl=>?_;rw[aa] at hbl;change ar _ _ _ ⟨_,_,[jf gz ab M (some (bs,c)),.cells [ae fr,ae to,ab am]],_⟩ _;obtain⟨b,hb⟩:∃b:List Nat×Nat,b=(bs,c):=⟨_,rfl⟩;rw[<-hb]
 have hbl:b.1.length=M.length:=by rw[hb];exact hbl
 clear hb;obtain⟨sb,hsb⟩:∃sb,sb=ot b (fr,to) M:=⟨_,rfl⟩
 (repeat refine ar.seq ?_)
 refine ar.wL 14 20 (λL=>⟨(22,vo L 0 (.map 0))::(23,vo L 1 (.ptr 1 0))::(24,vo L 2 (ae fr))::(25,vo L 3 (.ptr 1 1))::(26,vo L 4 (ae to))::(27,vo L 5 (.ag [ae fr,ae to]))::(28,vo L 6 (ab g))::(29,vo L 7 (ab n))::(30,vo L 8 (.ptr 1 2))::(31,vo L 9 (ab am))::(32,vo L 10 (ab (n*am)))::(33,vo L 11 (ab (g+n*am)))::(34,vo L 12 (.bE [ab g,.a (.int .i64 (a4 sb))]))::(35,vo L 13 (.a (.int .i64 (a4 sb))))::[(9,.ptr 1 0),(0,.map 0),(1,ab n),(10,ak 1 ll tg),(11,ab ll.length),(12,ab k),(16,ak 3 ts bj),(17,ab ts.length),(18,ab k2),(1000000,.ptr 0 0)],38,[io L 12 (jf gz ab (fQ 0 (fr,to) M) (some (iU b (fr,to) M))) (jf gz ab M (some b)),.cells [ae fr,ae to,ab am]],[]⟩) rfl (by kernel_rfl) (by rfl) (by decide) (by kernel_rfl) (Fg.less (by (simp only[bP,bg,dr,↓reduceIte,be,ak,mh,fK (L:=λ_=>False) (λh=>h)])<;>(repeat' apply And.intro)<;>first | rfl | trivial) (by (simp only[bP,bg,or_true,true_or,ak,mh,fK (L:=λ_=>False) (λh=>h)])<;>(repeat' apply And.intro)<;>first | exact .inr rfl | exact .inl rfl | trivial)) (λL=>rfl) ?_ ?_
 ·rintro L i o him hC hr
  rcases i with _ | _ | _ | _ | _ | _ | _ | _ | _ | _ | _ | _ | _ | _ | i
  rotate_right
  ·exact t8 him (by omega)
  ·cases hr.fE;refine zR ?_;exact(bL (n2 @aO @bR))
  ·cases hr.fE;refine zR ?_;exact(bL (n2 @aO @bR))
  ·cases hr.fE;have d1:L 1:=hr.dep ⟨1,.data⟩ (by simp) rfl;refine cM (dP d1) ?_;exact(bL (n3 @aO @bR (dP d1)))
  ·cases hr.fE;refine zR ?_;exact(bL (n2 @aO @bR))
  ·cases hr.fE;have d3:L 3:=hr.dep ⟨3,.data⟩ (by simp) rfl;refine cM (dP d3) ?_;exact(bL (n3 @aO @bR (dP d3)))
  ·cases hr.fE;have d2:L 2:=hr.dep ⟨2,.data⟩ (by simp) rfl;have d4:L 4:=hr.dep ⟨4,.data⟩ (by simp) rfl;refine cM (n2 (dP d2) (dP d4)) ?_;exact(bL (n4 @aO @bR (dP d2) (dP d4)))
  ·cases hr.fE;have d0:L 0:=hr.dep ⟨0,.data⟩ (by simp) rfl;have d5:L 5:=hr.dep ⟨5,.data⟩ (by simp) rfl
   have hlk:dW Tryz.prog [io L 12 (jf gz ab (fQ 0 (fr,to) M) (some (iU b (fr,to) M))) (jf gz ab M (some b)),.cells [ae fr,ae to,ab am]] 82 (.map 0) (.ag [ae fr,ae to]) false=some (ab g):=by
    by_cases h:L 12
    ·rw[od h,kW fr to rfl,sC,<-hg]
    ·rw[fK h,kW fr to rfl,<-hg]
   refine cM (n3 (dP d0) (dP d5) hlk) ?_;exact(bL (n4 @aO @bR (dP d0) (dP d5)))
  ·cases hr.fE;refine zR ?_;exact(bL (n2 @aO @bR))
  ·cases hr.fE;refine zR ?_;exact(bL (n2 @aO @bR))
  ·cases hr.fE;have d8:L 8:=hr.dep ⟨8,.data⟩ (by simp) rfl;refine cM (dP d8) ?_;exact(bL (n3 @aO @bR (dP d8)))
  ·cases hr.fE;have d7:L 7:=hr.dep ⟨7,.data⟩ (by simp) rfl;have d9:L 9:=hr.dep ⟨9,.data⟩ (by simp) rfl;refine cM (n3 (dP d7) (dP d9) (Ux hmul)) ?_;exact(bL (n4 @aO @bR (dP d7) (dP d9)))
  ·cases hr.fE;have d6:L 6:=hr.dep ⟨6,.data⟩ (by simp) rfl;have d10:L 10:=hr.dep ⟨10,.data⟩ (by simp) rfl;refine cM (n3 (dP d6) (dP d10) (p9 hadd)) ?_;exact(bL (n4 @aO @bR (dP d6) (dP d10)))
  ·cases hr.fE;have d0:L 0:=hr.dep ⟨0,.data⟩ (by simp) rfl;have d5:L 5:=hr.dep ⟨5,.data⟩ (by simp) rfl;have h12:¬L 12:=hr.new;refine aI.TV (kv:=gz) (uv:=ab) (l:=M) (k:=((fr,to):Pr)) (u0:=0) (z:=.int .i64 0) (kt:=95) (et:=3) (oo:=0) (b:=b) (ky:=.ag [ae fr,ae to]) (by rfl) rfl rfl (by rfl) (gQ (dP d0)) (gQ (dP d5)) rfl (by rw[fK h12];rfl) (by simp only[aw]) uz (by simp only[aw]) rfl ?_;refine .nil ?_;rw[<-hg,<-hsb];exact(bL (n3 @aO @bR @List.set_cons_zero.{0}))
  ·cases hr.fE;have d12:L 12:=hr.dep ⟨12,.data⟩ (by simp) rfl;refine cM (dP d12) ?_;exact(bL (n3 @aO @bR (dP d12)))
 have v14:∀i,i<14->∀v:SV,vo (λj=>j<14) i v=v:=λi h v=>dq h;have v0:=v14 0 (by decide);have v13:=v14 13 (by decide);have v11:=v14 11 (by decide);have i12:∀x y:SO,io (λj=>j<14) 12 x y=x:=λx y=>od (by decide);change aI _ _ _ _ _ _;refine aI.TO (kv:=gz) (uv:=ab) (l:=M) (k:=((fr,to):Pr)) (u0:=0) (oo:=0) (b:=iU b (fr,to) M) (sb:=sb) (u:=g+n*am) (by rfl) rfl rfl (by rfl) (gQ v0) (gQ v13) (gQ v11) (by rw[i12];rfl) (by rw[hsb];exact vW hbl) ?_;refine .nil ?_;rw[<-hput];change ar _ _ _ _ _;refine ar.fg (st':=⟨[(0,.map 0),(1,ab n),(10,ak 1 ll tg),(11,ab ll.length),(12,ab k),(16,ak 3 ts bj),(17,ab ts.length),(18,ab k2),(1000000,.ptr 0 0)],38,[bz gz ab (kF n M ⟨fr,to,am⟩)],[]⟩) (bL @List.set_cons_zero.{0}) ?_;refine aC (zi hlt2 hlen2) ?_;refine zX hlt2 (bL hnx) (by rw[hnx];have:=hall2.add (t:=⟨fr,to,am⟩) hn hta;intro q;have:=this q;omega)
def kI(t:Xf):cr (bj t)=true:=rfl
def Ov:∀l:List Xf,(l.flatMap bj).all ec=true
 | []=>rfl
 | a::l=>by rw[List.flatMap_cons,List.all_append,Ov l];rfl
def Ph(p:Pr):Ap (gz p)=.ag [ae p.1,ae p.2]:=rfl
def J6:Prop:=(∀(ts:List Xf),ts≠[]->ts.length<=1000000->(ts.map A7).Nodup->SC Tryz.prog 56 [.iface 35 (.buf 0 ts.length 3 none),.fn 57 [] [.ptr 1 0]] [.cells (ts.flatMap bj),.cells [.buf 0 ts.length 3 none]] []
 (λr S'=>r=.bE []/\S'=[.cells ((gF ts).flatMap bj),.cells [.buf 0 ts.length 3 none]]))/\
 SC Tryz.prog 56 [.iface 35 cN,.fn 57 [] [.ptr 0 0]] [.cells [cN]] [] (λr S'=>r=.bE []/\S'=[.cells [cN]])
def DF(q:List Xf):SO:=if q=[] then .gone else .cells (q.flatMap bj)
def zA:DF []=.gone:=rfl
def IQ{q:List Xf}(h:q≠[]):DF q=.cells (q.flatMap bj):=un h
def LW(o:Nat)(q:List Xf):bQ o (DF q)=DF q:=by
 unfold DF;split
 ·rfl
 ·show SO.cells _=_;rw[aZ (enc:=bj) kI]
def Mc{p o e n:Nat}(h:o≠p):names p (bn o e n)=false:=by
 unfold bn;split
 ·exact jo _
 ·rw[names];exact ut h
def yX(o:Nat)(l:c9):(l.map λe=>ab e.2).map (bf o)=l.map λe=>ab e.2:=bI (eK (λ_=>rfl) l)
def I9{m:c9}(h:m.any (λe=>decide (1000000000000<e.2))=true):dn m=([],13):=by unfold dn;rw[ul h]
def ME{m:c9}(h:∀e∈m,e.2<=1000000000000):dn m=(gF (iQ m),0):=by
 unfold dn;rw[un];rw[List.any_eq_true];rintro⟨e,he,h1⟩;have:=h e he;have:=ww h1;omega
def Ms(l:c9)(e:Pr×Int):iQ (l++[e])=if 0<e.2 then iQ l++[RX e] else iQ l:=by
 unfold iQ;rw[bt];by_cases h:0<e.2<;>simp[h]
set_option maxHeartbeats 2000000 in
def xc(hsort:J6)(mp:c9)(hn:(mp.map (·.1)).Nodup)(hlen:mp.length<=100000):PC Tryz.prog 23 [nZ gz ab mp] (·=.bE [ak 3 (dn mp).1 bj,ab (dn mp).2]):=by
 refine pB 32 Tryz.func23 ?_;refine lC ?_;refine zC ?_;refine aI.TC (ks:=mp.map λe=>gz e.1) (vs:=mp.map λe=>ab e.2) (by rfl) rfl rfl (by rfl) rfl (by simp only[aw]) ?_;intro bs c hbs;refine zR ?_
 (repeat refine ar.seq ?_)
 refine ar.block (ar.loop (λm st=>∃pos:List Nat,pos.Nodup/\(∀j∈pos,j<mp.length)/\(∀e∈bq mp pos,e.2<=1000000000000)/\mp.length-pos.length=m/\st=⟨[(4,.ptr 0 0),(8,.ptr 1 0)],32,[.cells [bn 2 3 (iQ (bq mp pos)).length],.oL (mp.map λe=>gz e.1) (mp.map λe=>ab e.2) bs c pos,DF (iQ (bq mp pos))],[]⟩) mp.length zH ⟨[],List.nodup_nil,λj h=>(bi h).elim,λe h=>(bi h).elim,by simp,rfl⟩ (by rintro m st ⟨_,_,_,_,_,rfl⟩;rfl) ?_);rintro m st ⟨pos,hpn,hpl,hle,rfl,rfl⟩;obtain⟨q,hq⟩:∃q,q=iQ (bq mp pos):=⟨_,rfl⟩;rw[<-hq];refine zC ?_;refine aI.Tx (by rfl) rfl rfl (by rfl) rfl rfl (λj hj=>by rw[aa];exact hpl j hj) ?_ ?_;rotate_left
 ·intro j hj hjn;rw[aa] at hj;obtain⟨e,he⟩:∃e,mp[j]?=some e:=⟨mp[j],bd hj⟩;obtain⟨q1,q2,q3⟩:=oU hpn hpl hj hjn;have hsn:=lh mp pos he;have hps:=Ms (bq mp pos) e;rw[<-hsn,<-hq] at hps;refine zR ?_;refine eQ ?_;refine zC ?_;refine aI.Ts (k:=gz e.1) (v:=ab e.2) (by rfl) rfl rfl (by rfl) rfl rfl (by rw[ac,he];rfl) (by rw[ac,he];rfl) ?_;refine aI.r0 (by rfl) (by simp only[bP,bg,ak,aw,ad,a8,↓reduceIte,be,b3,b4,bN,b6,ai,an,aU,Ph,Mc (show 2≠3 by decide),LW,yX];first | done | rfl) ?_;have hmem:e∈mp:=a0 he;by_cases hb:1000000000000<e.2
  ·refine aC (wd hb) ?_;refine cL ?_;have hbig:dn mp=([],13):=I9 (List.any_eq_true.2 ⟨e,hmem,wd hb⟩);exact iA [.tmp 2,.tmp 3] (r:=.bE [.sl 0 3 [],ab 13]) (hw:=zv) (hq:=by rw[hbig];rfl)
  refine aC (ut hb) ?_;refine zN ?_
  have hle2:∀x∈bq mp (pos++[j]),x.2<=1000000000000:=by
   intro x hx;rw[hsn] at hx
   rcases List.mem_append.1 hx with hx | hx
   ·exact hle x hx
   ·rw[List.mem_singleton.1 hx];omega
  have hmeas:mp.length-(pos++[j]).length<mp.length-pos.length:=by rw[bv];simp only[List.length_cons,length_nil];omega
  by_cases hp:0<e.2
  ·refine aC (wd hp) ?_;refine zY ?_;rw[ul hp] at hps;have happ:=eh (enc:=bj) (e:=3) (λ_=>rfl) kI 2 q (RX e);have hcl:=aJ (enc:=bj) (e:=3) (λ_=>rfl) q
   have hql:q.length<=1000000:=by
    have h1:q.length<=(bq mp pos).length:=by rw[hq];unfold iQ;rw[aa];exact bo _ _
    have h2:(bq mp pos).length<=pos.length:=List.length_filterMap_le _ _;omega
   have hte:bj (RX e)=[ae e.1.1,ae e.1.2,ab e.2]:=rfl;by_cases hq0:q=[]
   ·subst hq0;refine aC (n3 @eH @length_nil.{0} @zA) ?_
    have hS1:bn 2 3 (iQ (bq mp (pos++[j]))).length=.buf 2 1 3 none:=by rw[hps];rfl
    have hS2:DF (iQ (bq mp (pos++[j])))=.cells [ae e.1.1,ae e.1.2,ab e.2]:=by rw[hps];rfl
    have hrn:∀r:Nat->Nat,kh r (mp.map λe=>ab e.2)=mp.map λe=>ab e.2:=λr=>aY (eK (λ_=>rfl) mp);exact⟨mp.length-(pos++[j]).length,_,hmeas,((Fg.rn (f':=[(4,.ptr 0 0),(8,.ptr 1 0)]) (n:=32) (S':=[.cells [.buf 2 1 3 none],.oL (mp.map λe=>gz e.1) (mp.map λe=>ab e.2) bs c (pos++[j]),.cells [ae e.1.1,ae e.1.2,ab e.2]]) [0,1,5] (by decide) rfl (HY hrn) (HZ hrn))).trans (bL (n2 hS1 hS2)),pos++[j],q1,q2,hle2,rfl,rfl⟩
   ·have hil:¬q.length=0:=λh=>hq0 (List.length_eq_zero_iff.1 h);rw[hte] at happ;refine zs ?_;refine ar.r0 (by rfl) (by simp only[bP,bg,ak,aw,ad,a8,↓reduceIte,be,b3,b4,bN,b6,ai,an,aU,bV hil,IQ hq0,aZ (enc:=bj) kI _ q,hcl,b0,hql,happ];first | done | rfl) ?_
    have hS1:bn 2 3 (iQ (bq mp (pos++[j]))).length=.buf 2 (q.length+1) 3 none:=by rw[hps,bv];exact bV (Nat.succ_ne_zero _)
    have hS2:DF (iQ (bq mp (pos++[j])))=.cells ((q++[RX e]).flatMap bj):=by rw[hps];exact IQ (by simp)
    exact⟨mp.length-(pos++[j]).length,_,hmeas,(bL (n2 hS1 hS2)),pos++[j],q1,q2,hle2,rfl,rfl⟩
  ·refine aC (ut hp) ?_;refine zN ?_;rw[un hp] at hps;exact⟨mp.length-(pos++[j]).length,_,hmeas,(bL hps),pos++[j],q1,q2,hle2,rfl,rfl⟩
 intro hall;have hperm:(bq mp pos).Perm mp:=mK hpn hpl λj hj=>hall j (by rw[aa];exact hj);refine zR ?_;refine dZ ?_
 have hpq:q.Perm (iQ mp):=by rw[hq];unfold iQ;exact(hperm.filter _).map _
 have hkn:=vL mp hn;have hsq:gF q=gF (iQ mp):=qQ hkn ((eE q).trans hpq) ((k7 q).imp λh=>by unfold Dw at h;simpa using h)
 have htr:dn mp=(gF q,0):=by rw[hsq];exact ME λe he=>hle e (hperm.mem_iff.2 he)
 have hql:q.length<=1000000:=by
  rw[hpq.length_eq];unfold iQ;rw[aa];exact Nat.le_trans (bo _ _) (by omega)
 refine ar.fg (st':=⟨[(4,.ptr 0 0)],32,[.cells [bn 2 3 q.length],.gone,DF q],[]⟩) zH ?_;by_cases hq0:q=[]
 ·rw[hq0] at htr ⊢;rw[htr]
  (try change ar _ _ _ _ _)
  refine gG (n3 @eH @length_nil.{0} @zA) ?_;refine zS [0] @zA hsort.2 ?_;refine zR ?_;refine zV ?_;exact iA [.tmp 2,.tmp 3] (r:=.bE [.sl 0 3 [],ab 0]) (hw:=zv)
 have hil:¬q.length=0:=λh=>hq0 (List.length_eq_zero_iff.1 h);have hs:=hsort.1 q hq0 hql ((hpq.map A7).nodup_iff.2 hkn);have hrq:∀(r:Nat->Nat) (l:List Xf),kh r (l.flatMap bj)=l.flatMap bj:=λr l=>aY (aB kI l);have hbq:∀(B:Nat) (l:List Xf),fq B (l.flatMap bj)=true:=λB l=>bC (aB kI l);have hkq:∀(o:Nat) (l:List Xf),(l.flatMap bj).map (bf o)=l.flatMap bj:=λo l=>bI (aB kI l);rw[bV hil,IQ hq0]
 (try change ar _ _ _ _ _)
 refine zC ?_;refine zS [2,0] (n3 hrq hbq hkq) hs ?_;refine zR ?_;refine zV ?_;have hsl:(gF q).length=q.length:=(eE q).length_eq;refine ar.fg (st':=⟨[(2,.buf 2 q.length 3 none),(3,ab 0)],32,[.gone,.gone,.cells ((gF q).flatMap bj)],[]⟩) zH ?_;have htk:((gF q).flatMap bj).take (q.length*3)=(gF q).flatMap bj:=List.take_of_length_le (by rw[aJ (enc:=bj) (e:=3) (λ_=>rfl),hsl];exact b0 _);refine ar.fg (Fg.freeze (f':=[(2,ak 3 (gF q) bj),(3,ab 0)]) 2 rfl (λh=>by cases h) ⟨.inr (by rw[lM,hsl];exact .buf rfl (by rw[htk];exact bp.refl (aB kI _)) (by rw[aJ (enc:=bj) (e:=3) (λ_=>rfl),hsl];exact b0 _)),.inl rfl,trivial⟩) ?_;rw[htr];exact iA [.tmp 2,.tmp 3] (r:=.bE [ak 3 (gF q) bj,ab 0]) (hw:=.bE (.cons (.sl _ _ _) (.cons (.a _) .nil)))
end Go.Proofs
