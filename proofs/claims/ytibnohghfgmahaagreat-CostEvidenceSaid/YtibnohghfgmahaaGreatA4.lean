/- Lemmas of this claim, each with its conditions. -/
import Derived.Test.YtibnohghfgmahaaGreatA3
import Derived.Test.YtibnohghfgmahaaGreatA2
import Derived.Lib.Overlaps
set_option linter.all false
open Nat (blt beq ble)
open List (mem_append mem_range mem_map mem_filter all_eq_true mem_cons map_nil ofFn)
open List renaming getElem?_eq_getElem -> ac, mem_cons_self -> al, getElem?_cons_succ -> ax, getElem?_cons_zero -> a7, getElem?_map -> a8, mem_cons_of_mem -> a9, getElem?_set_self -> ba, getElem?_set_ne -> be, length_map -> bh, getElem?_eq_none -> bw, getElem?_append_right -> b7, getElem_mem -> ce, length_cons -> cf, range -> ci, getElem_of_mem -> cn, drop_eq_getElem_cons -> co, getElem?_append_left -> ct, map_cons -> cv, length_append -> c3, replicate -> dc, drop_of_length_le -> dl, all_cons -> dt, getElem?_toArray -> dv, getElem?_append -> d0, length_nil -> d1, length_set -> d2, mem_of_getElem? -> d3, nodup_cons -> d4, mem_map_of_mem -> d5, toList_toArray -> d6, drop_drop -> d7, take_zero -> d8, getElem?_ofFn -> eb, getElem?_take -> ei, reverse_cons -> er, drop_length -> eF, filter_cons -> e6, getElem_inj -> fd, length_drop -> fo, length_ofFn -> fu, append_nil -> f4, head?_drop -> f5, map_append -> f6, take_one -> f7
open Bool renaming and_eq_true -> aj, and_true -> el, true_and -> em, or_eq_true -> fy
open Array renaming getD_eq_getD_getElem? -> ap, getElem?_eq_getElem -> bd, toList_append -> bt, getElem?_setIfInBounds -> b6, getElem?_toList -> b8, replicate -> c4
open Nat renaming add_sub_cancel_left -> ay, le_of_not_lt -> a6, le_refl -> bi, lt_of_lt_of_le -> bv, le_trans -> b0, zero_add -> b9, lt_succ_self -> ch, zero_le -> dd, sub_zero -> dD, lt_irrefl -> d9, le_succ_of_le -> ej, sub_self -> eB, not_lt_zero -> fx, beq_refl -> f8
open Option renaming bind_some -> bc, map_some -> bk
namespace Go.Ev
noncomputable section
inductive Kd where
 | b
 | i (k:IntKind)
 | s
def Bk:Kd->AV->Bool
 | .b,.bool _=>true
 | .i k,.int k' _=>pg k k'
 | .s,.str _=>true
 | _,_=>false
def ke:List Kd->List AV->Bool
 | [],[]=>true
 | k::ks,x::xs=>Bk k x&&ke ks xs
 | _,_=>false
def o6(P:Program)(rec:TypeId->Option (List Kd)):List Field->Nat->Option (List Kd)
 | [],_=>some []
 | f::fs,off=>cond (!(f.name== "_")&&beq f.offset off) ((rec f.type).bind λks=>(o6 P rec fs (off+ks.length)).map λr=>ks++r) none
def nf(P:Program):Nat->TypeId->Option (List Kd)
 | 0,_=>none
 | d+1,t=>match P.underlying t,aU P t with
  | some .bool,some (1,false)=>some [.b]
  | some (.int k),some (1,false)=>some [.i k]
  | some .string,some (1,false)=>some [.s]
  | some (.struct fs),some (n,true)=>cond (P.stoodInHeld t) none ((o6 P (nf P d) fs.toList 0).bind λks=>cond (beq ks.length n) (some ks) none)
  | _,_=>none
def ph:∀{ks:List Kd} {xs:List AV},ke ks xs=true->xs.length=ks.length
 | [],[],_=>rfl
 | [],_::_,h=>by cases h
 | _::_,[],h=>by cases h
 | k::ks,x::xs,h=>by
  rw[ke,aj] at h;simp[ph h.2]
def kF:∀{k1 k2:List Kd} {xs:List AV},ke (k1++k2) xs=true->ke k1 (xs.take k1.length)=true/\ke k2 (xs.drop k1.length)=true
 | [],k2,xs,h=>⟨rfl,h⟩
 | k::k1,k2,[],h=>by cases h
 | k::k1,k2,x::xs,h=>by
  have h:(Bk k x&&ke (k1++k2) xs)=true:=h;rw[aj] at h;obtain⟨h1,h2⟩:=kF h.2;exact⟨by show(Bk k x&&ke k1 (xs.take k1.length))=true;rw[h.1,h1];rfl,h2⟩
def oI(e:AV->AV->Bool):∀(n:Nat) {xs ys:List AV},xs.length=ys.length->dZ e xs ys=(dZ e (xs.take n) (ys.take n)&&dZ e (xs.drop n) (ys.drop n))
 | 0,xs,ys,_=>by rw[List.take_zero,List.take_zero];rfl
 | n+1,[],[],_=>rfl
 | n+1,x::xs,y::ys,h=>by
  have h:xs.length=ys.length:=by simpa using h
  show(e x y&&dZ e xs ys)=((e x y&&dZ e (xs.take n) (ys.take n))&&dZ e (xs.drop n) (ys.drop n));rw[oI e n h,Bool.and_assoc]
 | n+1,[],y::ys,h=>by simp at h
 | n+1,x::xs,[],h=>by simp at h
section
variable {P:Program}
def EqAt(P:Program)(d:Nat)(t:TypeId)(ks:List Kd):Prop:=
 (∃k,ks=[k]/\aU P t=some (1,false)/\∀x y,Bk k x=true->Bk k y=true->fU P d t x y=some (dL x y)/\uD P d t x=true)\/
 (aU P t=some (ks.length,true)/\∀xs ys,ke ks xs=true->ke ks ys=true->fU P d t (.agg xs) (.agg ys)=some (dZ dL xs ys)/\uD P d t (.agg xs)=true)
def rk{d:Nat}(hrec:∀t ks,nf P d t=some ks->EqAt P d t ks):∀{fs:List Field} {off:Nat} {ks:List Kd},o6 P (nf P d) fs off=some ks->∀xs ys,xs.length=ys.length->off+ks.length=xs.length->ke ks (xs.drop off)=true->ke ks (ys.drop off)=true->
 eqFields P (fU P d) fs xs ys=some (dZ dL (xs.drop off) (ys.drop off))/\iw P (uD P d) fs xs=true
 | [],off,ks,h,xs,ys,hl,hle,h1,h2=>by
  simp only[o6,Option.some.injEq] at h;subst h;have e1:xs.drop off=[]:=List.drop_of_length_le (by simp at hle;omega);have e2:ys.drop off=[]:=List.drop_of_length_le (by simp at hle;omega);rw[e1,e2];exact⟨rfl,rfl⟩
 | f::fs,off,ks,h,xs,ys,hl,hle,h1,h2=>by
  simp only[o6] at h;obtain⟨hb,h⟩:=aw h;rw[Bool.and_eq_true] at hb;have hoff:=bD hb.2
  have hnm:(f.name== "_")=false:=by have:=hb.1;cases hq:(f.name== "_");rfl;rw[hq] at this;cases this
  obtain⟨k1,hk1,h⟩:=Option.bind_eq_some_iff.1 h;obtain⟨r,hr,rfl⟩:=ai h;obtain⟨a1,a2⟩:=kF h1;obtain⟨b1,b2⟩:=kF h2;rw[List.drop_drop] at a2 b2;rw[List.length_append] at hle;obtain⟨ih1,ih2⟩:=rk hrec hr xs ys hl (by omega) a2 b2;have hs:=oI dL k1.length (xs:=xs.drop off) (ys:=ys.drop off) (by rw[List.length_drop,List.length_drop,hl]);rw[List.drop_drop,List.drop_drop] at hs
  have hpart:∃p q,partA P f.type xs f.offset=some p/\partA P f.type ys f.offset=some q/\fU P d f.type p q=some (dZ dL ((xs.drop off).take k1.length) ((ys.drop off).take k1.length))/\uD P d f.type p=true:=by
   rw[hoff]
   rcases hrec _ _ hk1 with⟨k,rfl,hz,hq⟩ | ⟨hz,hq⟩
   ·obtain⟨z1,z2⟩:=mn hz;simp only[List.length_cons,List.length_nil,Nat.zero_add] at hle a1 b1 ⊢;obtain⟨x,hx⟩:∃x,xs[off]?=some x:=⟨xs[off],List.getElem?_eq_getElem (by omega)⟩;obtain⟨y,hy⟩:∃y,ys[off]?=some y:=⟨ys[off],List.getElem?_eq_getElem (by omega)⟩
    have ex:(xs.drop off).take 1=[x]:=by rw[List.take_one,List.head?_drop,hx];rfl
    have ey:(ys.drop off).take 1=[y]:=by rw[List.take_one,List.head?_drop,hy];rfl
    rw[ex] at a1;rw[ey] at b1;simp only[ke,Bool.and_true] at a1 b1;obtain⟨q1,q2⟩:=hq x y a1 b1;refine⟨x,y,?_,?_,?_,q2⟩
    ·unfold partA;rw[z1];exact hx
    ·unfold partA;rw[z1];exact hy
    ·rw[ex,ey,q1];simp only[dZ,Bool.and_true]
   ·obtain⟨z1,z2⟩:=mn hz;obtain⟨q1,q2⟩:=hq _ _ a1 b1;refine⟨_,_,?_,?_,q1,q2⟩
    ·unfold partA;rw[z1];simp only;rw[z2,Option.bind_some,cP (by simp only;omega),ab]
    ·unfold partA;rw[z1];simp only;rw[z2,Option.bind_some,cP (by simp only;omega),ab]
  obtain⟨p,q,g1,g2,g3,g4⟩:=hpart;refine⟨?_,?_⟩
  ·unfold eqFields;rw[hnm,ah,g1,g2];simp only;rw[g3,hs];cases dZ dL ((xs.drop off).take k1.length) ((ys.drop off).take k1.length)
   ·rfl
   ·simp only[Bool.true_and];exact ih1
  ·unfold iw;rw[hnm,g1];simp only;rw[g4,ih2];rfl
def o7:∀(d:Nat) (t:TypeId) (ks:List Kd),nf P d t=some ks->EqAt P d t ks
 | 0,t,ks,h=>by simp[nf] at h
 | d+1,t,ks,h=>by
  unfold nf at h;split at h
  ·rename_i hu hz;cases h;refine .inl ⟨.b,rfl,hz,λx y hx hy=>?_⟩
   cases x<;>first | (simp[Bk] at hx;done) | skip
   cases y<;>first | (simp[Bk] at hy;done) | skip
   rename_i a b;constructor
   ·unfold fU;rw[hu];simp only[dL];cases a<;>cases b<;>rfl
   ·unfold uD;rw[hu]
  ·rename_i k hu hz;cases h;refine .inl ⟨.i k,rfl,hz,λx y hx hy=>?_⟩
   cases x<;>first | (simp[Bk] at hx;done) | skip
   cases y<;>first | (simp[Bk] at hy;done) | skip
   rename_i k1 a k2 b;simp only[Bk] at hx hy
   have e1:k=k1:=by cases k<;>cases k1<;>first | rfl | cases hx
   have e2:k=k2:=by cases k<;>cases k2<;>first | rfl | cases hy
   subst e1;subst e2;constructor
   ·unfold fU;rw[hu];simp only[dL,hx,ab,Bool.true_and]
   ·unfold uD;rw[hu]
  ·rename_i hu hz;cases h;refine .inl ⟨.s,rfl,hz,λx y hx hy=>?_⟩
   cases x<;>first | (simp[Bk] at hx;done) | skip
   cases y<;>first | (simp[Bk] at hy;done) | skip
   constructor
   ·unfold fU;rw[hu];rfl
   ·unfold uD;rw[hu]
  ·rename_i fs n hu hz;cases hst:P.stoodInHeld t
   ·rw[hst,ah] at h;obtain⟨ks',hk,h⟩:=Option.bind_eq_some_iff.1 h;obtain⟨hn,h⟩:=aw h;cases h;have hn:=bD hn;subst hn;refine .inr ⟨hz,λxs ys hx hy=>?_⟩;have l1:=ph hx;have l2:=ph hy;obtain⟨r1,r2⟩:=rk (o7 d) hk xs ys (by omega) (by omega) hx hy;constructor
    ·unfold fU;rw[hu];simp only;rw[hst,ah];exact r1
    ·unfold uD;rw[hu];exact r2
   ·rw[hst] at h;cases h
  ·cases h
def ry{K:Type}[DecidableEq K]{t:TypeId}{ks:List Kd}{cells:K->List AV}(hf:nf P 4 t=some ks)(ha:(aU P t).map (·.2)=some true)(hk:∀a,ke ks (cells a)=true)(he:∀a b,dZ dL (cells a) (cells b)=decide (a=b))(hfl:∀a,(cells a).all gu=true):oE P t λa=>.agg (cells a):=by
 have key:∀a b,fU P 4 t (.agg (cells a)) (.agg (cells b))=some (decide (a=b))/\uD P 4 t (.agg (cells a))=true:=by
  intro a b
  rcases o7 4 t ks hf with⟨k,rfl,hz,_⟩ | ⟨_,hq⟩
  ·rw[hz] at ha;cases ha
  ·rw[<-he a b];exact hq _ _ (hk a) (hk b)
 refine⟨λa b=>(key a b).1,λa=>(key a a).2,λa=>?_⟩;unfold stays sR;show((cells a).all gu&&dM 3 (.agg (cells a)) (.agg (cells a)))=true;rw[hfl a,em];refine AJ _ _ ?_
 have:∀l:List AV,l.all gu=true->dZ (dM 2) l l=true:=by
  intro l
  induction l with
  | nil=>intro _;rfl
  | cons x l ih=>
   intro h;rw[dt,aj] at h;show(dM 2 x x&&dZ (dM 2) l l)=true;rw[ih h.2,el]
   cases x<;>first | (cases h.1;done) | exact xq _ _ | exact AK _ _ _ | exact re _ _
 exact this _ (hfl a)
def ug{t:TypeId}{ks:List Kd}{xs ys:List AV}{b:Bool}(hg:P.eqGuardType P.depth t=false)(hf:nf P 8 t=some ks)(ha:(aU P t).map (·.2)=some true)(hx:ke ks xs=true)(hy:ke ks ys=true)(he:dZ dL xs ys=b):bz P .eql t (.agg xs) (.agg ys)=some (.bool b):=by
 have:fU P 8 t (.agg xs) (.agg ys)=some b:=by
  rcases o7 8 t ks hf with⟨k,rfl,hz,_⟩ | ⟨_,hq⟩
  ·rw[hz] at ha;cases ha
  ·rw[<-he];exact(hq _ _ hx hy).1
 show cond (P.eqGuardType P.depth t) none ((fU P 8 t (.agg xs) (.agg ys)).map AV.bool)=_;rw[hg,ah,this];rfl
end
mutual
def de(r:Nat->Nat):SV->SV
 | .any=>.any
 | .a v=>.a v
 | .sl n e cs=>.sl n e cs
 | .im ks vs=>.im ks vs
 | .ip cs=>.ip cs
 | .ptr o off=>.ptr (r o) off
 | .map o=>.map (r o)
 | .buf o n e c=>.buf (r o) n e c
 | .sub o off n e c=>.sub (r o) off n e c
 | .e0 e=>.e0 e
 | .ag cs=>.ag (fV r cs)
 | .aO cs=>.aO (fV r cs)
 | .fn g a b=>.fn g (fV r a) (fV r b)
 | .iface t v=>.iface t (de r v)
def fV(r:Nat->Nat):List SV->List SV
 | []=>[]
 | d::ds=>de r d::fV r ds
end
def Dn(r:Nat->Nat):Fm->Fm
 | []=>[]
 | (d,v)::f=>(d,de r v)::Dn r f
def iK(r:Nat->Nat):SO->SO
 | .cells cs=>.cells (fV r cs)
 | .map ks vs b=>.map ks (fV r vs) b
 | .iter m bs c pos=>.iter (de r m) bs c pos
 | .kT ks vs bs c pos=>.kT ks vs bs c pos
 | .gone=>.gone
 | .loop c ls p f=>.loop c ls p (Dn r f)
 | .ik N=>.ik N
def eM(os:List Nat)(B i:Nat):Nat:=match os[i]? with
 | some o=>o
 | none=>B+(i-os.length)
mutual
def bV(B:Nat):SV->Bool
 | .ptr o _=>decide (o<B)
 | .map o=>decide (o<B)
 | .buf o _ _ _=>decide (o<B)
 | .sub o _ _ _ _=>decide (o<B)
 | .ag cs=>dA B cs
 | .aO cs=>dA B cs
 | .fn _ a b=>dA B a&&dA B b
 | .iface _ v=>bV B v
 | _=>true
def dA(B:Nat):List SV->Bool
 | []=>true
 | d::ds=>bV B d&&dA B ds
end
def sm(B:Nat):Fm->Bool
 | []=>true
 | (_,v)::f=>bV B v&&sm B f
def fK(B:Nat):SO->Bool
 | .cells cs=>dA B cs
 | .map _ vs _=>dA B vs
 | .iter m _ _ _=>bV B m
 | .kT _ _ _ _ _=>true
 | .gone=>true
 | .loop _ _ _ f=>sm B f
 | .ik _=>true
def mC(B:Nat):List SO->Bool
 | []=>true
 | s::l=>fK B s&&mC B l
def gy:List Nat->SV->SV
 | [],v=>v
 | k::ks,v=>gy ks (aH k v)
def ic:List Nat->Fm->Fm
 | [],f=>f
 | k::ks,f=>ic ks (cm k f)
def eC:List Nat->List SO->List SO
 | [],S=>S
 | k::ks,S=>eC ks (bZ k S)
def eI:List SO->List Nat->List SO->List SO
 | S,[],ss=>S++ss
 | S,o::os,s::ss=>eI (S.set o s) os ss
 | S,_::_,[]=>S
section
variable {θ θ':Nat->Loc} {ρ ρ0 ρ':ff} {P:Program} {h0:En} {h h1:H} {S S' S0:List SO}
mutual
def VS.rn(r:Nat->Nat):∀{v:SV} {x:AV},VS θ ρ (de r v) x↔VS (λp=>θ (r p)) ρ v x
 | .any,_=>by rw[de,VS,VS]
 | .a v,x=>by rw[de,VS,VS]
 | .sl n e cs,x=>by rw[de,VS,VS]
 | .im ks vs,x=>by rw[de,VS,VS]
 | .ip cs,x=>by rw[de,VS,VS]
 | .ptr p _,_=>by rw[de,VS,VS]
 | .map p,_=>by rw[de,VS,VS]
 | .buf p _ _ _,_=>by rw[de,VS,VS]
 | .sub p _ _ _ _,_=>by rw[de,VS,VS]
 | .e0 _,_=>by rw[de,VS,VS]
 | .ag cs,x=>by rw[de,VS,VS];exact exists_congr λ_=>and_congr_right λ_=>bK.rn r
 | .aO cs,x=>by rw[de,VS,VS];exact exists_congr λ_=>and_congr_right λ_=>bK.rn r
 | .fn g f c,x=>by rw[de,VS,VS];exact exists_congr λ_=>exists_congr λ_=>and_congr_right λ_=>and_congr (bK.rn r) (bK.rn r)
 | .iface t v,x=>by rw[de,VS,VS];exact exists_congr λ_=>and_congr_right λ_=>VS.rn r
def bK.rn(r:Nat->Nat):∀{ds:List SV} {aS:List AV},bK θ ρ (fV r ds) aS↔bK (λp=>θ (r p)) ρ ds aS
 | [],aS=>by rw[fV,aI,aI]
 | d::ds,aS=>by rw[fV,az,az];exact exists_congr λ_=>exists_congr λ_=>and_congr_right λ_=>and_congr (VS.rn r) (bK.rn r)
end
def ov(r:Nat->Nat):∀(f:Fm) (i:Nat),aC (Dn r f) i=de r (aC f i)
 | [],i=>by rw[show aC [] i=.any from rfl,de];rfl
 | (d,v)::f,i=>by
  show(if d=i then de r v else aC (Dn r f) i)=de r (if d=i then v else aC f i);rw[ov r f i];by_cases h:d=i
  ·rw[t8 h,t8 h]
  ·rw[ul h,ul h]
def uo{B:Nat}:∀{f:Fm} {i:Nat},sm B f=true->bV B (aC f i)=true
 | [],i,_=>by rw[show aC ([]:Fm) i=.any from rfl];simp[bV]
 | (d,v)::f,i,h=>by
  rw[sm,aj] at h;show bV B (if d=i then v else aC f i)=true;by_cases e:d=i
  ·rw[t8 e];exact h.1
  ·rw[ul e];exact uo h.2
def gO.rn(r:Nat->Nat){L:Loc}{so:SO}:gO θ ρ h L (iK r so)↔gO (λp=>θ (r p)) ρ h L so:=by
 cases so with
 | cells cs=>exact exists_congr λ_=>and_congr_right λ_=>and_congr_left λ_=>bK.rn r
 | map ks vs b=>exact exists_congr λ_=>exists_congr λ_=>and_congr_right λ_=>and_congr_right λ_=>bK.rn r
 | iter m bs c pos=>exact exists_congr λ_=>and_congr_left λ_=>VS.rn r
 | kT ks vs bs c pos=>exact Iff.rfl
 | gone=>exact Iff.rfl
 | loop c ls p f=>exact and_congr_right λ_=>and_congr_right λ_=>forall_congr' λi=>forall_congr' λ_=>by rw[ov];exact VS.rn r
 | ik N=>exact Iff.rfl
def cS{r:Nat->Nat}{so:SO}:iK r so≠.gone↔so≠.gone:=by
 cases so<;>simp[iK]
mutual
def VS.fY{B:Nat}(hθ:∀q,q<B->(θ' q).id=(θ q).id):∀{v:SV} {x:AV},bV B v=true->VS θ ρ v x->VS θ' ρ v x
 | .any,_,_,_=>by rw[VS];trivial
 | .a v,x,_,h=>by rw[VS] at h ⊢;exact h
 | .sl n e cs,x,_,h=>by rw[VS] at h ⊢;exact h
 | .im ks vs,x,_,h=>by rw[VS] at h ⊢;exact h
 | .ip cs,x,_,h=>by rw[VS] at h ⊢;exact h
 | .ptr p _,_,hn,h=>by rw[VS] at h ⊢;rw[bV] at hn;rw[hθ p (ww hn)];exact h
 | .map p,_,hn,h=>by rw[VS] at h ⊢;rw[bV] at hn;rw[hθ p (ww hn)];exact h
 | .buf p _ _ _,_,hn,h=>by rw[VS] at h ⊢;rw[bV] at hn;rw[hθ p (ww hn)];exact h
 | .sub p _ _ _ _,_,hn,h=>by rw[VS] at h ⊢;rw[bV] at hn;rw[hθ p (ww hn)];exact h
 | .e0 e,x,_,h=>by rw[VS] at h ⊢;exact h
 | .ag cs,x,hn,h=>by rw[VS] at h ⊢;rw[bV] at hn;obtain⟨aS,h1,h2⟩:=h;exact⟨aS,h1,bK.fY hθ hn h2⟩
 | .aO cs,x,hn,h=>by rw[VS] at h ⊢;rw[bV] at hn;obtain⟨aS,h1,h2⟩:=h;exact⟨aS,h1,bK.fY hθ hn h2⟩
 | .fn g f c,x,hn,h=>by
  rw[VS] at h ⊢;rw[bV,aj] at hn;obtain⟨xs,ys,h1,h2,h3⟩:=h;exact⟨xs,ys,h1,bK.fY hθ hn.1 h2,bK.fY hθ hn.2 h3⟩
 | .iface t v,x,hn,h=>by rw[VS] at h ⊢;rw[bV] at hn;obtain⟨y,h1,h2⟩:=h;exact⟨y,h1,VS.fY hθ hn h2⟩
def bK.fY{B:Nat}(hθ:∀q,q<B->(θ' q).id=(θ q).id):∀{ds:List SV} {aS:List AV},dA B ds=true->bK θ ρ ds aS->bK θ' ρ ds aS
 | [],aS,_,h=>by rw[aI] at h ⊢;exact h
 | d::ds,aS,hn,h=>by
  rw[az] at h ⊢;rw[dA,aj] at hn;obtain⟨a,r,h1,h2,h3⟩:=h;exact⟨a,r,h1,VS.fY hθ hn.1 h2,bK.fY hθ hn.2 h3⟩
end
def gO.fY{B:Nat}(hθ:∀q,q<B->(θ' q).id=(θ q).id){L:Loc}{so:SO}(hn:fK B so=true)(hx:gO θ ρ h L so):gO θ' ρ h L so:=by
 cases so with
 | cells cs=>obtain⟨aS,h1,h2,h3⟩:=hx;exact⟨aS,h1,h2.fY hθ hn,h3⟩
 | map ks vs b=>obtain⟨l,c,h1,h2,h3⟩:=hx;exact⟨l,c,h1,h2,h3.fY hθ hn⟩
 | iter m bs c pos=>obtain⟨mid,h1,h2⟩:=hx;exact⟨mid,h1.fY hθ hn,h2⟩
 | kT ks vs bs c pos=>exact hx
 | gone=>trivial
 | loop c ls p f=>
  obtain⟨h1,h2,h3⟩:=hx;exact⟨h1,h2,λi hi=>(h3 i hi).fY hθ (uo hn)⟩
 | ik N=>exact hx
def uq{B:Nat}:∀{S:List SO} {i:Nat} {so:SO},mC B S=true->S[i]?=some so->fK B so=true
 | [],i,so,_,h=>by simp at h
 | s::l,0,so,hb,h=>by rw[mC,aj] at hb;simp only[a7,Option.some.injEq] at h;subst h;exact hb.1
 | s::l,i+1,so,hb,h=>by rw[mC,aj] at hb;exact uq hb.2 (by simpa using h)
def wY(θ:Nat->Loc):List Nat->(Nat->Loc)->Nat->Loc
 | [],_=>θ
 | k::ks,θ'=>wY (dH θ k (θ' k)) ks θ'
def oC:∀{ks:List Nat} {θ:Nat->Loc} {p:Nat},(p∈ks\/θ p=θ' p)->wY θ ks θ' p=θ' p
 | [],θ,p,h=>by rcases h with h | h;(· simp at h);(· exact h)
 | k::ks,θ,p,h=>by
  rw[wY];by_cases e:p=k
  ·subst e;exact oC (.inr (bp _ _ _))
  ·rcases h with h | h
   ·rcases mem_cons.1 h with h | h
    ·exact t7 h e
    ·exact oC (.inl h)
   ·exact oC (.inr (by rw[aW _ _ e];exact h))
def wZ:∀{ks:List Nat} {θ:Nat->Loc} {p:Nat},p∉ks->wY θ ks θ' p=θ p
 | [],θ,p,h=>rfl
 | k::ks,θ,p,h=>by
  rw[wY,wZ (λe=>h (a9 _ e)),aW _ _ (λe=>h (by rw[e];exact al))]
def u7:∀{ks:List Nat} {θ:Nat->Loc} {v:SV} {x:AV},VS θ ρ v x->VS (wY θ ks θ') ρ (gy ks v) x
 | [],θ,v,x,h=>h
 | k::ks,θ,v,x,h=>by
  rw[wY,gy];exact u7 (ef (θ':=dH θ k (θ' k)) (λp hp=>aW _ _ hp) h)
def oX:∀(ks:List Nat) (f:Fm) (i:Nat),aC (ic ks f) i=gy ks (aC f i)
 | [],f,i=>rfl
 | k::ks,f,i=>by rw[ic,gy,oX ks,dU]
def eD:∀(ks:List Nat) (S:List SO),(eC ks S).length=S.length
 | [],S=>rfl
 | k::ks,S=>by rw[eC,eD ks];unfold bZ;rw[bh]
def AR{f g:SV->SV}(so:SO):kH f (kH g so)=kH (λv=>f (g v)) so:=by cases so<;>simp[kH]
def pj:∀(ks:List Nat) (S:List SO) (p:Nat),(eC ks S)[p]?=(S[p]?).map (kH (gy ks))
 | [],S,p=>by
  show S[p]?=_
  cases S[p]? with
  | none=>rfl
  | some s=>rw[bk];exact congrArg some (lF s).symm
 | k::ks,S,p=>by
  rw[eC,pj ks,jQ]
  cases S[p]? with
  | none=>rfl
  | some s=>simp only[bk,AR];rfl
def rP:∀{os:List Nat} {S ss:List SO} (p:Nat),os.Nodup->(∀o∈os,o<S.length)->os.length<=ss.length->
 (∀i:Nat,os[i]?=some p->(eI S os ss)[p]?=ss[i]?)/\(p∉os->p<S.length->(eI S os ss)[p]?=S[p]?)/\(S.length<=p->(eI S os ss)[p]?=ss[os.length+(p-S.length)]?)
 | [],S,ss,p,_,_,_=>by
  refine⟨λi h=>by simp at h,λ_ hl=>?_,λhl=>?_⟩
  ·rw[eI,ct hl]
  ·rw[eI,b7 hl,d1,b9]
 | o::os,S,[],p,_,_,hl=>by simp at hl
 | o::os,S,s::ss,p,hn,ho,hl=>by
  rw[d4] at hn;have ih:=rP (os:=os) (S:=S.set o s) (ss:=ss) p hn.2 (λx hx=>by rw[d2];exact ho x (a9 _ hx)) (by simpa using hl);have hol:=ho o al;rw[d2] at ih;refine⟨λi h=>?_,λh1 h2=>?_,λh1=>?_⟩
  ·cases i with
   | zero=>
    simp only[a7,Option.some.injEq] at h;subst h;rw[eI,ih.2.1 hn.1 hol,ba hol];rfl
   | succ i=>
    simp only[ax] at h;rw[eI,ih.1 i h];rfl
  ·rw[eI,ih.2.1 (λe=>h1 (a9 _ e)) h2,be (λe=>h1 (by rw[e];exact al))]
  ·rw[eI,ih.2.2 h1,cf,show os.length+1+(p-S.length)=os.length+(p-S.length)+1 by omega,ax]
def SC(P:Program)(g:FuncId)(args:List SV)(S0:List SO)(mv:List Nat)(Q:SV->List SO->Prop):Prop:=
 ∀(E:En) θ ρ h avs,E.h={ h with low:=h.next }->RS θ ρ ρ E E.h S0->bK θ ρ args avs->
  cx P (.func g) avs h (λv h'=>∃r S' θ' ρ' h1,Q r S'/\h'={ h1 with low:=dF h.low h1.low }/\RS θ' ρ ρ' E h1 S'/\VS θ' ρ' r v/\S0.length<=S'.length/\∀i,i<S0.length->i∉mv->(θ' i).id=(θ i).id)
end
section
variable {θ θ':Nat->Loc} {ρ ρ0 ρ':ff} {P:Program} {h0:En} {h h1:H} {S S' S0:List SO}
def ij(K:Nat):Fm:=(ci K).map λi=>(1000000+i,SV.ptr i 0)
def uN(g:Nat->SV):∀(l:List Nat) (j:Nat),aC (l.map λi=>(1000000+i,g i)) j=if j≥1000000/\(j-1000000)∈l then g (j-1000000) else .any
 | [],j=>by simp[aC]
 | i::l,j=>by
  show(if 1000000+i=j then g i else aC (l.map λi=>(1000000+i,g i)) j)=_;rw[uN g l j];by_cases h:1000000+i=j
  ·subst h;rw[t8 rfl,t8 ⟨by omega,by rw[ay];exact al⟩,ay]
  ·rw[ul h];by_cases h2:j≥1000000/\(j-1000000)∈l
   ·rw[t8 h2,t8 ⟨h2.1,a9 _ h2.2⟩]
   ·rw[ul h2,ul];rintro⟨h3,h4⟩
    rcases mem_cons.1 h4 with e | e
    ·omega
    ·exact h2 ⟨h3,e⟩
def lj:∀(f g:Fm) (j:Nat),(∀v,(j,v)∉f)->aC (f++g) j=aC g j
 | [],g,j,_=>rfl
 | (d,v)::f,g,j,h=>by
  show(if d=j then v else aC (f++g) j)=_;rw[ul (λe=>h v (by rw[e];exact al)),lj f g j λw hw=>h w (a9 _ hw)]
def mG:∀(f g:Fm) (j:Nat) {v:SV},(j,v)∈f->aC (f++g) j=aC f j
 | [],g,j,v,h=>by simp at h
 | (d,w)::f,g,j,v,h=>by
  show(if d=j then w else aC (f++g) j)=(if d=j then w else aC f j);by_cases e:d=j
  ·rw[t8 e,t8 e]
  ·rw[ul e,ul e]
   rcases mem_cons.1 h with h | h
   ·simp only[Prod.mk.injEq] at h;exact t7 h.1.symm e
   ·exact mG f g j h
def oJ:∀(vs:List SV) (i j:Nat),i<=j->j<i+vs.length->∃v,(j,v)∈fa i vs
 | [],i,j,h1,h2=>by simp at h2;omega
 | v::vs,i,j,h1,h2=>by
  by_cases e:i=j
  ·subst e;exact⟨v,al⟩
  ·simp only[cf] at h2;obtain⟨w,hw⟩:=oJ vs (i+1) j (by omega) (by omega);exact⟨w,a9 _ hw⟩
def mB:∀(vs:List SV) (i j:Nat) (v:SV),i+vs.length<=j->(j,v)∉fa i vs
 | [],i,j,v,h=>by simp[fa]
 | w::vs,i,j,v,h=>by
  simp only[cf] at h;intro hm
  rcases mem_cons.1 hm with e | e
  ·simp only[Prod.mk.injEq] at e;omega
  ·exact mB vs (i+1) j v (by omega) e
def Bi(P:Program)(fn:Func)(K:Nat)(mv:List Nat)(Q:SV->List SO->Prop):Ex->cM->Prop:=λe st=>fj e=true/\st.ds=[]/\(∃vs,gB P st.f st.S fn.results.toList=some vs/\Q (bL vs) st.S)/\K<=st.S.length/\∀i,i<K->i∉mv->aC st.f (1000000+i)=.ptr i 0
def gC{os:List Nat}{B i o:Nat}(h:os[i]?=some o):eM os B i=o:=by unfold eM;rw[h]
def gX{os:List Nat}{B i:Nat}(h:os.length<=i):eM os B i=B+(i-os.length):=by unfold eM;rw[List.getElem?_eq_none h]
def sT{os:List Nat}{B i j:Nat}(hn:os.Nodup)(hB:∀o∈os,o<B)(h:eM os B i=eM os B j):i=j:=by
 by_cases hi:i<os.length
 ·have e1:=gC (B:=B) (ac hi);by_cases hj:j<os.length
  ·have e2:=gC (B:=B) (ac hj);rw[e1,e2] at h;exact(fd hn).1 h
  ·have e2:=gX (B:=B) (a6 hj);rw[e1,e2] at h;have:=hB _ (ce hi);omega
 ·have e1:=gX (B:=B) (a6 hi);by_cases hj:j<os.length
  ·have e2:=gC (B:=B) (ac hj);rw[e1,e2] at h;have:=hB _ (ce hj);omega
  ·have e2:=gX (B:=B) (a6 hj);rw[e1,e2] at h;omega
def forgot(os mv:List Nat)(B J:Nat):List Nat:=mv.map (λi=>eM os B i)++(ci J).map λj=>B+j
def afterS(S:List SO)(os mv:List Nat)(S':List SO):List SO:=
 eI (eC (forgot os mv S.length (S'.length-os.length)) S) os (S'.map (iK (eM os S.length)))
def vm{α:Type}{p q:α->Prop}(h:¬∀x,p x->q x):∃x,p x/\¬q x:=by
 apply Classical.byContradiction;intro hn;exact h λx hp=>Classical.byContradiction λhq=>hn ⟨x,hp,hq⟩
def BI(θ:Nat->Loc)(h0:En)(h:H)(S0:List SO):En where
 h:={ h with low:=h.next }
 pr:=λj=>j<h.next/\∀i so,S0[i]?=some so->so≠.gone->j≠(θ i).x/\j≠(θ i).y
 pf:=λj=>j<h.next/\∀i so,S0[i]?=some so->so≠.gone->j≠(θ i).aX
 lo:=h0.lo
 w:=λ_=>e7
def RS.enter(hR:RS θ ρ0 ρ h0 h S){r:Nat->Nat}(hr:∀i so,S0[i]?=some so->S[r i]?=some (iK r so))(hi:∀i j,r i=r j->i=j):
 RS (λp=>θ (r p)) ρ ρ (BI (λp=>θ (r p)) h0 h S0) { h with low:=h.next } S0:=by
 have hlo:h0.lo<=h.next:=b0 hR.lw hR.ln;refine⟨⟨λj hj=>hj.1,λj hj=>hj.1,λj hj=>?_,hlo⟩,bi _,λ_ _=>rfl,λ_ _=>rfl,hlo,bi _,?_,?_,?_,λid ob h=>.inl h⟩
 ·show h0.lo<=j;by_cases hlt:j<h.next
  ·have:¬∀(q:Nat×SO),(S0[q.1]?=some q.2/\q.2≠.gone)->(j≠(θ (r q.1)).x/\j≠(θ (r q.1)).y):=λhall=>hj ⟨hlt,λi so h1 h2=>hall (i,so) ⟨h1,h2⟩⟩;obtain⟨⟨i,so⟩,⟨h1,h2⟩,h3⟩:=vm this;obtain⟨k,_⟩:=hR.obj _ _ (hr i so h1) (cS.2 h2);by_cases hx:j=(θ (r i)).x
   ·rw[hx];exact hR.ok.lo _ k.x.1
   ·have:j=(θ (r i)).y:=Decidable.byContradiction λhy=>h3 ⟨hx,hy⟩;rw[this];exact hR.ok.lo _ k.y.1
  ·exact b0 hlo (a6 hlt)
 ·intro i so h1 h2;obtain⟨k,k2⟩:=hR.obj _ _ (hr i so h1) (cS.2 h2);exact⟨⟨k.e,⟨λhp=>(hp.2 i so h1 h2).1 rfl,k.x.2⟩,⟨λhp=>(hp.2 i so h1 h2).2 rfl,k.y.2⟩,⟨λhp=>hp.2 i so h1 h2 rfl,k.f.2⟩⟩,(gO.rn r).1 k2⟩
 ·intro i j so so' hij h1 h2 h3 h4;exact hR.sep _ _ _ _ (λe=>hij (hi _ _ e)) (hr i so h1) (cS.2 h2) (hr j so' h3) (cS.2 h4)
 ·intro id ob h1;obtain⟨r1,r2,r3⟩:=hR.row id ob h1;exact⟨r1,r2,λi so h2 h3=>r3 _ _ (hr i so h2) (cS.2 h3)⟩
end
section
variable {θ θ':Nat->Loc} {ρ ρ0 ρ':ff} {P:Program} {h0:En} {h h1:H} {S S' S0:List SO}
def Du(θ θ':Nat->Loc)(r:Nat->Nat)(J:Nat):Nat->Loc:=λp=>match (ci J).find? λi=>beq (r i) p with
 | some i=>θ' i
 | none=>θ p
def Er{r:Nat->Nat}{J i:Nat}(hi:∀i j,r i=r j->i=j)(h:i<J):Du θ θ' r J (r i)=θ' i:=by
 unfold Du
 cases hf:(ci J).find? λj=>beq (r j) (r i) with
 | none=>
  have:=List.find?_eq_none.1 hf i (mem_range.2 h);simp at this
 | some j=>
  have:=List.find?_some hf;rw[hi j i (Nat.eq_of_beq_eq_true this)]
def Dv{r:Nat->Nat}{J p:Nat}(h:∀i,i<J->r i≠p):Du θ θ' r J p=θ p:=by
 unfold Du;rw[List.find?_eq_none.2 λi hi=>by simpa using h i (mem_range.1 hi)]
def mV(ρ ρ':ff):ff:=λid=>match ρ id with
 | some ob=>some ob
 | none=>ρ' id
def vC{id:Nat}{ob:AO}(h:ρ id=some ob):mV ρ ρ' id=some ob:=by unfold mV;rw[h]
def BU{os mv:List Nat}{low:Nat}(hR:RS θ ρ0 ρ h0 h S)(hr:∀(i:Nat) so,S0[i]?=some so->S[eM os S.length i]?=some (iK (eM os S.length) so))(hK:os.length=S0.length)(hnd:os.Nodup)(hos:∀o∈os,o<S.length)
 (hR':RS θ' ρ ρ' (BI (λp=>θ (eM os S.length p)) h0 h S0) h1 S') (hl:S0.length<=S'.length) (hid:∀i,i<S0.length->i∉mv->(θ' i).id=(θ (eM os S.length i)).id) (hb:mC S'.length S'=true) (hlow:low=dF h.low h1.low):
 RS (Du θ θ' (eM os S.length) S'.length) ρ0 (mV ρ ρ') h0 { h1 with low:=low } (afterS S os mv S')/\
 (∀v x,VS θ ρ v x->VS (Du θ θ' (eM os S.length) S'.length) (mV ρ ρ') (gy (forgot os mv S.length (S'.length-os.length)) v) x)/\
 ∀v x,bV S'.length v=true->VS θ' ρ' v x->VS (Du θ θ' (eM os S.length) S'.length) (mV ρ ρ') (de (eM os S.length) v) x:=by
 have hi:∀i j,eM os S.length i=eM os S.length j->i=j:=λi j=>sT hnd hos;generalize hR0:eM os S.length=r at *;generalize hT:Du θ θ' r S'.length=θt
 have hT1:∀i,i<S'.length->θt (r i)=θ' i:=λi h=>by rw[<-hT];exact Er hi h
 have hT2:∀p,(∀i,i<S'.length->r i≠p)->θt p=θ p:=λp h=>by rw[<-hT];exact Dv h
 have hjn:∀i,r i<S.length↔i<S0.length:=by
  intro i;by_cases h:i<os.length
  ·have e:=gC (B:=S.length) (ac h);rw[hR0] at e;rw[e];exact⟨λ_=>by omega,λ_=>hos _ (ce h)⟩
  ·have e:=gX (B:=S.length) (a6 h);rw[hR0] at e;rw[e];exact⟨λ_=>by omega,λ_=>by omega⟩
 have hmem:∀p,p∈forgot os mv S.length (S'.length-os.length)↔(∃i,i∈mv/\r i=p)\/∃i,S0.length<=i/\i<S'.length/\r i=p:=by
  intro p;unfold forgot;rw[mem_append,mem_map,mem_map,hR0];refine or_congr Iff.rfl ⟨?_,?_⟩
  ·rintro⟨j,hj,rfl⟩;refine⟨os.length+j,by omega,by have:=mem_range.1 hj;omega,?_⟩;rw[<-hR0,gX (by omega)];omega
  ·rintro⟨i,h1,h2,rfl⟩;refine⟨i-os.length,mem_range.2 (by omega),?_⟩;rw[<-hR0,gX (by omega)]
 have hpr:∀j,h0.pr j->(BI (λp=>θ (r p)) h0 h S0).pr j:=by
  intro j hj;refine⟨bv (hR.ok.pr j hj) hR.nx,λi so h1 h2=>?_⟩;obtain⟨k,_⟩:=hR.obj _ _ (hr i so h1) (cS.2 h2);exact⟨λe=>k.x.1 (e▸hj),λe=>k.y.1 (e▸hj)⟩
 have hpf:∀j,h0.pf j->(BI (λp=>θ (r p)) h0 h S0).pf j:=by
  intro j hj;refine⟨bv (hR.ok.pf j hj) hR.nx,λi so h1 h2=>?_⟩;obtain⟨k,_⟩:=hR.obj _ _ (hr i so h1) (cS.2 h2);exact λe=>k.f.1 (e▸hj)
 have hlt:∀i so,S0[i]?=some so->i<S'.length:=λi so h=>bv (aE h) hl
 have hoth:∀p so,(∀i,i<S'.length->r i≠p)->S[p]?=some so->so≠.gone->
  (BI (λp=>θ (r p)) h0 h S0).pr (θ p).x/\(BI (λp=>θ (r p)) h0 h S0).pr (θ p).y/\(BI (λp=>θ (r p)) h0 h S0).pf (θ p).aX:=by
  intro p so hp h1 h2;obtain⟨k,_⟩:=hR.obj p so h1 h2;have sp:=λi s (e1:S0[i]?=some s) (e2:s≠.gone)=>hR.sep p (r i) so _ (λe=>hp i (hlt i s e1) e.symm) h1 h2 (hr i s e1) (cS.2 e2);exact⟨⟨k.x.2,λi s e1 e2=>⟨(sp i s e1 e2).xx,(sp i s e1 e2).xy⟩⟩,⟨k.y.2,λi s e1 e2=>⟨(sp i s e1 e2).yx,(sp i s e1 e2).yy⟩⟩,⟨k.f.2,λi s e1 e2=>(sp i s e1 e2).f⟩⟩
 have hob:∀j,(BI (λp=>θ (r p)) h0 h S0).pr j->h1.aD.get j=h.aD.get j:=λj hj=>hR'.ob j hj;have hfm:∀j,(BI (λp=>θ (r p)) h0 h S0).pf j->h1.bW.get j=h.bW.get j:=λj hj=>hR'.fm j hj
 have hrow:∀id ob,ρ id=some ob->(BI (λp=>θ (r p)) h0 h S0).pr id:=by
  intro id ob e;obtain⟨r1,_,r3⟩:=hR.row id ob e;exact⟨r1,λi s e1 e2=>r3 _ _ (hr i s e1) (cS.2 e2)⟩
 have hnew:∀id ob,ρ' id=some ob->mV ρ ρ' id=some ob:=by
  intro id ob e;unfold mV
  cases e2:ρ id with
  | none=>exact e
  | some ob2=>
   have a:=(hR'.row id ob e).2.1;rw[hob id (hrow id ob2 e2),(hR.row id ob2 e2).2.1] at a;exact a
 have hfr0:∀(ρx:ff) v x,VS θ ρx v x->VS θt ρx (gy (forgot os mv S.length (S'.length-os.length)) v) x:=by
  intro ρx v x hv;refine VS.ids (θ:=wY θ (forgot os mv S.length (S'.length-os.length)) θt) (λp=>?_) (u7 hv);by_cases hp:p∈forgot os mv S.length (S'.length-os.length)
  ·rw[oC (.inl hp)]
  ·rw[wZ hp];rw[hmem] at hp;by_cases him:∃i,i<S'.length/\r i=p
   ·obtain⟨i,e1,rfl⟩:=him;have e2:i<S0.length:=Nat.lt_of_not_le λe=>hp (.inr ⟨i,e,e1,rfl⟩);rw[hT1 i e1,hid i e2 (λe=>hp (.inl ⟨i,e,rfl⟩))]
   ·rw[hT2 p λi e1 e2=>him ⟨i,e1,e2⟩]
 have hfr:∀v x,VS θ ρ v x->VS θt (mV ρ ρ') (gy (forgot os mv S.length (S'.length-os.length)) v) x:=λv x hv=>hfr0 _ _ _ (hv.mono λ_ _ e=>vC e);have hsets:=λp=>rP (os:=os) (S:=eC (forgot os mv S.length (S'.length-os.length)) S) (ss:=S'.map (iK r)) p hnd (λo ho=>by rw[eD];exact hos o ho) (by rw[bh];omega)
 have hA:∀i,i<S'.length->(afterS S os mv S')[r i]?=(S'[i]?).map (iK r):=by
  intro i e;unfold afterS;rw[hR0];by_cases e1:i<os.length
  ·have e2:os[i]?=some (r i):=by
    have:=gC (B:=S.length) (ac e1);rw[hR0] at this;rw[this,ac e1]
   rw[(hsets (r i)).1 i e2,a8]
  ·have e2:=gX (B:=S.length) (a6 e1);rw[hR0] at e2;have:=(hsets (r i)).2.2 (by rw[eD,e2];omega);rw[this,eD,e2,a8,show os.length+(S.length+(i-os.length)-S.length)=i by omega]
 have hB:∀p so,(∀i,i<S'.length->r i≠p)->(afterS S os mv S')[p]?=some so->so≠.gone->∃s,S[p]?=some s/\s≠.gone/\so=kH (gy (forgot os mv S.length (S'.length-os.length))) s:=by
  intro p so hp e1 e2;unfold afterS at e1;rw[hR0] at e1
  have hno:p∉os:=by
   intro hm;obtain⟨i,hi1,hi2⟩:=cn hm;have e3:=gC (B:=S.length) (ac hi1);rw[hR0,hi2] at e3;exact hp i (by omega) e3
  by_cases hpl:p<S.length
  ·rw[(hsets p).2.1 hno (by rw[eD];exact hpl),pj] at e1;obtain⟨s,hs,rfl⟩:=ai e1;exact⟨s,hs,rI e2,rfl⟩
  ·rw[(hsets p).2.2 (by rw[eD];omega),eD,a8] at e1;obtain⟨s,hs,_⟩:=ai e1;have:=aE hs;refine t7 ?_ (hp (os.length+(p-S.length)) this);rw[<-hR0,gX (by omega)];omega
 have hcase:∀p so,(afterS S os mv S')[p]?=some so->so≠.gone->(∃i s,i<S'.length/\r i=p/\S'[i]?=some s/\s≠.gone/\so=iK r s)\/((∀i,i<S'.length->r i≠p)/\∃s,S[p]?=some s/\s≠.gone/\so=kH (gy (forgot os mv S.length (S'.length-os.length))) s):=by
  intro p so e1 e2;by_cases him:∃i,i<S'.length/\r i=p
  ·obtain⟨i,e3,rfl⟩:=him;rw[hA i e3] at e1;obtain⟨s,hs,rfl⟩:=ai e1;exact .inl ⟨i,s,e3,rfl,hs,cS.1 e2,rfl⟩
  ·have hp:∀i,i<S'.length->r i≠p:=λi e3 e4=>him ⟨i,e3,e4⟩;exact .inr ⟨hp,hB p so hp e1 e2⟩
 have hrn:∀v x,bV S'.length v=true->VS θ' ρ' v x->VS θt (mV ρ ρ') (de r v) x:=by
  intro v x e1 e2;rw[VS.rn];refine VS.fY (θ:=θ') (λq hq=>?_) e1 (e2.mono hnew);rw[hT1 q hq]
 refine⟨⟨hR.ok,b0 hR.nx hR'.nx,λj hj=>(hob j (hpr j hj)).trans (hR.ob j hj),λj hj=>(hfm j (hpf j hj)).trans (hR.fm j hj),?_,?_,?_,?_,?_,?_⟩,hfr,hrn⟩
 ·show h0.lo<=low;rw[hlow];exact gV hR.lw hR'.lw
 ·show low<=h1.next;rw[hlow];exact b0 (cj _ _).2 hR'.ln
 ·intro p so e1 e2
  rcases hcase p so e1 e2 with⟨i,s,e3,rfl,e4,e5,rfl⟩ | ⟨hp,s,e3,e4,rfl⟩
  ·rw[hT1 i e3];obtain⟨k,k2⟩:=hR'.obj i s e4 e5;refine⟨⟨k.e,⟨λe=>k.x.1 (hpr _ e),k.x.2⟩,⟨λe=>k.y.1 (hpr _ e),k.y.2⟩,⟨λe=>k.f.1 (hpf _ e),k.f.2⟩⟩,?_⟩;rw[gO.rn];refine gO.fY (θ:=θ') (λq hq=>by rw[hT1 q hq]) (uq hb e4) ?_;exact k2.mono hnew rfl rfl
  ·rw[hT2 p hp];obtain⟨k,k2⟩:=hR.obj p s e3 e4;obtain⟨o1,o2,o3⟩:=hoth p s hp e3 e4;refine⟨k.mono hR'.nx,(k2.mono (h':=h) (λ_ _ e=>vC e) rfl rfl).map (hfr0 _) ?_ (hfm _ o3)⟩
   rcases k.e with e | e
   ·rw[e];exact hob _ o1
   ·rw[e];exact hob _ o2
 ·intro p q so so' hpq e1 e2 e3 e4
  rcases hcase p so e1 e2 with⟨i,s,a3,rfl,a4,a5,rfl⟩ | ⟨hp,s,a3,a4,rfl⟩
  ·rcases hcase q so' e3 e4 with⟨j,s',b3,rfl,b4,b5,rfl⟩ | ⟨hq,s',b3,b4,rfl⟩
   ·rw[hT1 i a3,hT1 j b3];exact hR'.sep i j s s' (λe=>hpq (by rw[e])) a4 a5 b4 b5
   ·rw[hT1 i a3,hT2 q hq];obtain⟨k,_⟩:=hR'.obj i s a4 a5;obtain⟨o1,o2,o3⟩:=hoth q s' hq b3 b4;exact⟨λe=>k.x.1 (by rw[e];exact o1),λe=>k.x.1 (by rw[e];exact o2),λe=>k.y.1 (by rw[e];exact o1),λe=>k.y.1 (by rw[e];exact o2),λe=>k.f.1 (by rw[e];exact o3)⟩
  ·rcases hcase q so' e3 e4 with⟨j,s',b3,rfl,b4,b5,rfl⟩ | ⟨hq,s',b3,b4,rfl⟩
   ·rw[hT2 p hp,hT1 j b3];obtain⟨k,_⟩:=hR'.obj j s' b4 b5;obtain⟨o1,o2,o3⟩:=hoth p s hp a3 a4;exact⟨λe=>k.x.1 (by rw[<-e];exact o1),λe=>k.y.1 (by rw[<-e];exact o1),λe=>k.x.1 (by rw[<-e];exact o2),λe=>k.y.1 (by rw[<-e];exact o2),λe=>k.f.1 (by rw[<-e];exact o3)⟩
   ·rw[hT2 p hp,hT2 q hq];exact hR.sep p q s s' hpq a3 a4 b3 b4
 ·intro id ob e
  have hfull:id<h1.next/\h1.aD.get id=some ob:=by
   unfold mV at e
   cases e2:ρ id with
   | some ob2=>
    rw[e2] at e;cases e;exact⟨bv (hR.row id _ e2).1 hR'.nx,by rw[hob id (hrow id _ e2)];exact(hR.row id _ e2).2.1⟩
   | none=>
    rw[e2] at e;exact⟨(hR'.row id ob e).1,(hR'.row id ob e).2.1⟩
  refine⟨hfull.1,hfull.2,?_⟩;intro p so e1 e2;unfold mV at e
  rcases hcase p so e1 e2 with⟨i,s,a3,rfl,a4,a5,rfl⟩ | ⟨hp,s,a3,a4,rfl⟩
  ·rw[hT1 i a3]
   cases e3:ρ id with
   | some ob2=>
    obtain⟨k,_⟩:=hR'.obj i s a4 a5;exact⟨λe=>k.x.1 (by rw[<-e];exact hrow id _ e3),λe=>k.y.1 (by rw[<-e];exact hrow id _ e3)⟩
   | none=>
    rw[e3] at e;exact(hR'.row id ob e).2.2 i s a4 a5
  ·rw[hT2 p hp]
   cases e3:ρ id with
   | some ob2=>exact(hR.row id _ e3).2.2 p s a3 a4
   | none=>
    rw[e3] at e;obtain⟨o1,o2,_⟩:=hoth p s hp a3 a4
    rcases hR'.gm id ob e with e4 | e4
    ·rw[e3] at e4;cases e4
    ·exact⟨λe5=>e4 (by rw[e5];exact o1),λe5=>e4 (by rw[e5];exact o2)⟩
 ·intro id ob e;unfold mV at e
  cases e2:ρ id with
  | some ob2=>rw[e2] at e;cases e;exact hR.gm id _ e2
  | none=>
   rw[e2] at e
   rcases hR'.gm id ob e with e4 | e4
   ·rw[e2] at e4;cases e4
   ·exact .inr λe5=>e4 (hpr id e5)
def aB.sc{ro:Option Nat}{all:List Oper}{o:Oper}{l:List Oper}{f:Fm}{n:Nat}{ds:List eE}{K:cM->Prop}{d:Nat}{c:Call}{g:FuncId}{vs ws:List SV}{mv:List Nat}{Q:SV->List SO->Prop}(os:List Nat)(hst:cN all n [o]=true)(hop:o.op=.call c)(hdst:o.dst=some d)(hw:bB all f o.guard=some true)(hdy:dg (.call c)=true)
 (hc:callS P f c=some (g,vs)) (hq:SC P g ws S0 mv Q) (hvs:fV (eM os S.length) ws=vs) (hK:os.length=S0.length) (hnd:os.Nodup) (hos:∀(i:Nat) so,S0[i]?=some so->∃o,os[i]?=some o/\S[o]?=some (iK (eM os S.length) so))
 (hb:∀r S',Q r S'->bV S'.length r=true/\mC S'.length S'=true)
 (hk:∀r S',Q r S'->aB P ro all l ⟨(d,de (eM os S.length) r)::ic (forgot os mv S.length (S'.length-os.length)) f,n,afterS S os mv S',ds⟩ K):aB P ro all (o::l) ⟨f,n,S,ds⟩ K:=by
 rintro ρ0 h0 ⟨af,n',h,ds'⟩ ⟨rfl,rfl,θ,ρ,hR,hF⟩;subst hvs
 have hd:blt d n'=true:=by
  have:=(cU hst).1;rw[hdst] at this;exact this
 have hos2:∀o∈os,o<S.length:=by
  intro o ho;obtain⟨i,hi1,hi2⟩:=cn ho
  have:i<S0.length:=by omega
  obtain⟨o',e1,e2⟩:=hos i _ (ac this);rw[ac hi1] at e1;cases e1;rw[<-hi2];exact aE e2
 have hr:∀(i:Nat) so,S0[i]?=some so->S[eM os S.length i]?=some (iK (eM os S.length) so):=by
  intro i so e;obtain⟨o,e1,e2⟩:=hos i so e;rw[gC e1];exact e2
 obtain⟨xs,cap,e1,e2⟩:=oP hF hc;refine .c hop hdst (bH hF (cI hst hw)) hdy hd e1 rfl (hq _ _ ρ h _ rfl (hR.enter hr (λi j=>sT hnd hos2)) ((bK.rn _).1 e2)) ?_;rintro v h' ⟨r,S',θ',ρ',h1,k1,rfl,k3,k4,k5,k6⟩;obtain⟨b1,b2⟩:=hb r S' k1;obtain⟨j1,j2,j3⟩:=BU (low:=dF h.low h1.low) hR hr hK hnd hos2 k3 k5 k6 b2 rfl;refine hk r S' k1 ρ0 h0 _ ⟨rfl,rfl,_,_,j1,?_⟩
 have hF2:FR (Du θ θ' (eM os S.length) S'.length) (mV ρ ρ') (aC (ic (forgot os mv S.length (S'.length-os.length)) f)) af n' (od h0.w ds'):=
  ⟨λi=>by rw[oX];exact j2 _ _ (hF.v i),hF.u⟩
 exact hF2.put (df hd) (j3 _ _ b1 k4)
end
section
variable {P:Program} {ro:Option Nat} {f:Fm} {n:Nat} {S:List SO} {ds:List eE} {r:Nat->Nat} {B:Nat}
mutual
def mR{o:Nat}:∀{v:SV},gw v=true->names o v=false
 | .a v,_=>fG v
 | .sl n e cs,_=>pE n e cs
 | .im ks vs,_=>pC ks vs
 | .ip cs,_=>pD cs
 | .any,_=>mQ
 | .e0 e,_=>pA e
 | .ag cs,h=>by rw[names];exact cu (by rw[gw] at h;exact h)
 | .aO cs,h=>by rw[names];exact cu (by rw[gw] at h;exact h)
 | .fn g a b,h=>by rw[gw,aj] at h;rw[names,cu h.1,cu h.2];rfl
 | .iface t v,h=>by rw[names];exact mR (by rw[gw] at h;exact h)
 | .ptr _ _,h=>by simp[gw] at h
 | .map _,h=>by simp[gw] at h
 | .buf _ _ _ _,h=>by simp[gw] at h
 | .sub _ _ _ _ _,h=>by simp[gw] at h
def cu{o:Nat}:∀{vs:List SV},bm vs=true->dm o vs=false
 | [],_=>rfl
 | d::ds,h=>by rw[bm,aj] at h;rw[dm,mR h.1,cu h.2];rfl
end
def rC{o:Nat}{v:SV}(h:gw v=true):aH o v=v:=by unfold aH;rw[mR h];rfl
def aV{o:Nat}:∀{vs:List SV},bm vs=true->vs.map (aH o)=vs
 | [],_=>rfl
 | d::ds,h=>by rw[bm,aj] at h;rw[cv,rC h.1,aV h.2]
mutual
def Ai:∀{v:SV},gw v=true->de r v=v
 | .a v,_=>by rw[de]
 | .sl n e cs,_=>by rw[de]
 | .im ks vs,_=>by rw[de]
 | .ip cs,_=>by rw[de]
 | .any,_=>by rw[de]
 | .e0 e,_=>by rw[de]
 | .ag cs,h=>by rw[de,aK (by rw[gw] at h;exact h)]
 | .aO cs,h=>by rw[de,aK (by rw[gw] at h;exact h)]
 | .fn g a b,h=>by rw[gw,aj] at h;rw[de,aK h.1,aK h.2]
 | .iface t v,h=>by rw[de,Ai (by rw[gw] at h;exact h)]
 | .ptr _ _,h=>by simp[gw] at h
 | .map _,h=>by simp[gw] at h
 | .buf _ _ _ _,h=>by simp[gw] at h
 | .sub _ _ _ _ _,h=>by simp[gw] at h
def aK:∀{vs:List SV},bm vs=true->fV r vs=vs
 | [],_=>by rw[fV]
 | d::ds,h=>by rw[bm,aj] at h;rw[fV,Ai h.1,aK h.2]
end
mutual
def c8:∀{v:SV},gw v=true->bV B v=true
 | .a v,_=>by rw[bV];all_goals (intros;contradiction)
 | .sl n e cs,_=>by rw[bV];all_goals (intros;contradiction)
 | .im ks vs,_=>by rw[bV];all_goals (intros;contradiction)
 | .ip cs,_=>by rw[bV];all_goals (intros;contradiction)
 | .any,_=>by rw[bV];all_goals (intros;contradiction)
 | .e0 e,_=>by rw[bV];all_goals (intros;contradiction)
 | .ag cs,h=>by rw[bV];exact aP (by rw[gw] at h;exact h)
 | .aO cs,h=>by rw[bV];exact aP (by rw[gw] at h;exact h)
 | .fn g a b,h=>by rw[gw,aj] at h;rw[bV,aP h.1,aP h.2];rfl
 | .iface t v,h=>by rw[bV];exact c8 (by rw[gw] at h;exact h)
 | .ptr _ _,h=>by simp[gw] at h
 | .map _,h=>by simp[gw] at h
 | .buf _ _ _ _,h=>by simp[gw] at h
 | .sub _ _ _ _ _,h=>by simp[gw] at h
def aP:∀{vs:List SV},bm vs=true->dA B vs=true
 | [],_=>rfl
 | d::ds,h=>by rw[bm,aj] at h;rw[dA,c8 h.1,aP h.2];rfl
end
def gx:∀{a b:List SV},bm a=true->bm b=true->bm (a++b)=true
 | [],_,_,h=>h
 | d::ds,b,h,g=>by
  rw[bm,aj] at h;show bm (d::(ds++b))=true;rw[bm,h.1,gx h.2 g];rfl
def ar{α:Type}{enc:α->List SV}(h:∀x,bm (enc x)=true):∀l:List α,bm (l.flatMap enc)=true
 | []=>rfl
 | a::l=>by rw[List.flatMap_cons];exact gx (h a) (ar h l)
def zn(l:List (List Nat)):bm (l.flatMap (one1 ae))=true:=ar (λ_=>rfl) l
def BP(l:List Int):bm (l.flatMap (one1 aa))=true:=ar (λ_=>rfl) l
def iC(o:Nat)(l:List (List Nat)):(l.flatMap (one1 ae)).map (aH o)=l.flatMap (one1 ae):=aV (zn l)
def uZ(o:Nat)(l:List Int):(l.flatMap (one1 aa)).map (aH o)=l.flatMap (one1 aa):=aV (BP l)
def Cw(l:List (List Nat)):fV r (l.flatMap (one1 ae))=l.flatMap (one1 ae):=aK (zn l)
def Cv(l:List Int):fV r (l.flatMap (one1 aa))=l.flatMap (one1 aa):=aK (BP l)
def y7(l:List (List Nat)):dA B (l.flatMap (one1 ae))=true:=aP (zn l)
def y6(l:List Int):dA B (l.flatMap (one1 aa))=true:=aP (BP l)
def Cm(v:AV):de r (.a v)=.a v:=by rw[de]
def Cp(e:Nat):de r (.e0 e)=.e0 e:=by rw[de]
def Cu(n e:Nat)(cs:List SV):de r (.sl n e cs)=.sl n e cs:=by rw[de]
def Ah:de r .any=.any:=by rw[de]
def Cs(ks:List AV)(vs:List SV):de r (.im ks vs)=.im ks vs:=by rw[de]
def Ct(cs:List SV):de r (.ip cs)=.ip cs:=by rw[de]
def Ak(o off:Nat):de r (.ptr o off)=.ptr (r o) off:=by rw[de]
def Aj(o:Nat):de r (.map o)=.map (r o):=by rw[de]
def sU(o n e:Nat)(c:Option Nat):de r (.buf o n e c)=.buf (r o) n e c:=by rw[de]
def Al(o off n e:Nat)(c:Option Nat):de r (.sub o off n e c)=.sub (r o) off n e c:=by rw[de]
def Cn(cs:List SV):de r (.ag cs)=.ag (fV r cs):=by rw[de]
def Am(cs:List SV):de r (.aO cs)=.aO (fV r cs):=by rw[de]
def Cq(g:FuncId)(a b:List SV):de r (.fn g a b)=.fn g (fV r a) (fV r b):=by rw[de]
def Cr(t:TypeId)(v:SV):de r (.iface t v)=.iface t (de r v):=by rw[de]
def Ag:fV r []=[]:=by rw[fV]
def vF(d:SV)(ds:List SV):fV r (d::ds)=de r d::fV r ds:=by rw[fV]
def Ck(cs:List SV):iK r (.cells cs)=.cells (fV r cs):=rfl
def vG(ks:List AV)(vs:List SV)(b:Option (List Nat×Nat)):iK r (.map ks vs b)=.map ks (fV r vs) b:=rfl
def D0(m:SV)(bs:List Nat)(c:Nat)(pos:List Nat):iK r (.iter m bs c pos)=.iter (de r m) bs c pos:=rfl
def Cl(ks:List AV)(vs:List SV)(bs:List Nat)(c:Nat)(pos:List Nat):iK r (.kT ks vs bs c pos)=.kT ks vs bs c pos:=rfl
def DZ:iK r .gone=.gone:=rfl
def D1(c:dw)(ls:LoopState)(p:Option Code)(f:Fm):iK r (.loop c ls p f)=.loop c ls p (Dn r f):=rfl
def DY(N:Nat):iK r (.ik N)=.ik N:=rfl
def Af:Dn r []=[]:=rfl
def vE(d:Nat)(v:SV)(f:Fm):Dn r ((d,v)::f)=(d,de r v)::Dn r f:=rfl
def DU(o:Nat)(os:List Nat)(B:Nat):eM (o::os) B 0=o:=rfl
def DX(o:Nat)(os:List Nat)(B i:Nat):eM (o::os) B (i+1)=eM os B i:=by
 unfold eM;rw[ax]
 cases os[i]? with
 | some _=>rfl
 | none=>simp
def DW(B i:Nat):eM [] B i=B+i:=rfl
def uS(os mv:List Nat)(B:Nat):forgot os mv B 0=mv.map (eM os B):=by unfold forgot;simp
def uT(os mv:List Nat)(B:Nat):forgot os mv B 1=mv.map (eM os B)++[B+0]:=by unfold forgot;rfl
def uU(os mv:List Nat)(B:Nat):forgot os mv B 2=mv.map (eM os B)++[B+0,B+1]:=by unfold forgot;rfl
def uV(os mv:List Nat)(B:Nat):forgot os mv B 3=mv.map (eM os B)++[B+0,B+1,B+2]:=by unfold forgot;rfl
def E9:(∀f:Fm,ic [] f=f)/\(∀(k:Nat) (ks:List Nat) (f:Fm),ic (k::ks) f=ic ks (cm k f))/\(∀S:List SO,eC [] S=S)/\(∀(k:Nat) (ks:List Nat) (S:List SO),eC (k::ks) S=eC ks (bZ k S))/\
 (∀S ss:List SO,eI S [] ss=S++ss)/\(∀(S:List SO) (o:Nat) (os:List Nat) (s:SO) (ss:List SO),eI S (o::os) (s::ss)=eI (S.set o s) os ss)/\(∀(S:List SO) (os mv:List Nat) (S':List SO),afterS S os mv S'=eI (eC (forgot os mv S.length (S'.length-os.length)) S) os (S'.map (iK (eM os S.length))))/\
 (∀(g:Nat->Nat),([]:List Nat).map g=[])/\(∀(g:Nat->Nat) (a:Nat) (l:List Nat),(a::l).map g=g a::l.map g)/\(∀l:List Nat,[]++l=l)/\(∀(a:Nat) (l m:List Nat),(a::l)++m=a::(l++m))/\(∀(g:SO->SO),([]:List SO).map g=[])/\(∀(g:SO->SO) (a:SO) (l:List SO),(a::l).map g=g a::l.map g)/\
 (([]:List Nat).length=0)/\(∀(a:Nat) (l:List Nat),(a::l).length=l.length+1)/\(([]:List SO).length=0)/\(∀(a:SO) (l:List SO),(a::l).length=l.length+1)/\(∀l:List SO,l++[]=l)/\(∀n:Nat,n-0=n)/\(∀n:Nat,n-n=0):=by
 (repeat' apply And.intro)<;>intros<;>first | rfl | (simp;done) | rw[eI]
def Fa:(type_of% @Cm)/\(type_of% @Cp)/\(type_of% @Cu)/\(type_of% @Ah)/\(type_of% @Cs)/\(type_of% @Ct)/\(type_of% @Ak)/\(type_of% @Aj)/\(type_of% @sU)/\(type_of% @Al)/\(type_of% @Cn)/\(type_of% @Am)/\(type_of% @Cq)/\(type_of% @Cr)/\(type_of% @Ag)/\(type_of% @vF)/\(type_of% @Ck)/\(type_of% @vG)/\(type_of% @DZ)/\(type_of% @D0)/\(type_of% @Cl)/\(type_of% @D1)/\(type_of% @DY)/\(type_of% @Af)/\(type_of% @vE):=
 ⟨@Cm,@Cp,@Cu,@Ah,@Cs,@Ct,@Ak,@Aj,@sU,@Al,@Cn,@Am,@Cq,@Cr,@Ag,@vF,@Ck,@vG,@DZ,@D0,@Cl,@D1,@DY,@Af,@vE⟩
def Fb:(type_of% @DU)/\(type_of% @DX)/\(type_of% @DW)/\(type_of% @uS)/\(type_of% @uT)/\(type_of% @uU)/\(type_of% @uV)/\(type_of% @iC)/\(type_of% @uZ)/\(type_of% @Cw)/\(type_of% @Cv)/\(type_of% @y7)/\(type_of% @y6):=
 ⟨@DU,@DX,@DW,@uS,@uT,@uU,@uV,@iC,@uZ,@Cw,@Cv,@y7,@y6⟩
def cX:(type_of% @E9)/\(type_of% @Fa)/\(type_of% @Fb):=⟨@E9,@Fa,@Fb⟩
def qx:(type_of% @bV.eq_1)/\(type_of% @bV.eq_2)/\(type_of% @bV.eq_3)/\(type_of% @bV.eq_4)/\(type_of% @bV.eq_5)/\(type_of% @bV.eq_6)/\(type_of% @bV.eq_7)/\(type_of% @bV.eq_8)/\(type_of% @dA.eq_1)/\(type_of% @dA.eq_2)/\(type_of% @fK.eq_1)/\(type_of% @fK.eq_2)/\(type_of% @fK.eq_3)/\(type_of% @fK.eq_4)/\(type_of% @fK.eq_5)/\(type_of% @fK.eq_6)/\(type_of% @fK.eq_7)/\(type_of% @sm.eq_1)/\(type_of% @sm.eq_2)/\(type_of% @mC.eq_1)/\(type_of% @mC.eq_2)/\(∀(B:Nat) (v:AV),bV B (.a v)=true)/\(∀(B n e:Nat) (cs:List SV),bV B (.sl n e cs)=true)/\(∀(B:Nat) (cs:List SV),bV B (.ip cs)=true)/\(∀(B:Nat) (ks:List AV) (cs:List SV),bV B (.im ks cs)=true)/\(∀(B e:Nat),bV B (.e0 e)=true)/\(∀B:Nat,bV B .any=true):=
 ⟨@bV.eq_1,@bV.eq_2,@bV.eq_3,@bV.eq_4,@bV.eq_5,@bV.eq_6,@bV.eq_7,@bV.eq_8,@dA.eq_1,@dA.eq_2,@fK.eq_1,@fK.eq_2,@fK.eq_3,@fK.eq_4,@fK.eq_5,@fK.eq_6,@fK.eq_7,@sm.eq_1,@sm.eq_2,@mC.eq_1,@mC.eq_2,λ_ _=>c8 rfl,λ_ _ _ _=>c8 rfl,λ_ _=>c8 rfl,λ_ _ _=>c8 rfl,λ_ _=>c8 rfl,λ_=>c8 rfl⟩
def aB.AT{all:List Oper}{o:Oper}{l:List Oper}{K:cM->Prop}{d t yt:Nat}{x:Operand}{y:Value}{k e:Nat}{cs:List SV}(hst:cN all n [o]=true)(hop:o.op=.binOp .eql t x (.const y) yt)(hdst:o.dst=some d)(hw:bB all f o.guard=some true)
 (hx:cT f x=some (.sl k e cs)) (hy:fW depthV y=some (.slice none 0 0 (some 0))) (ht:dX P t=.sl) (hg:P.eqGuardType P.depth t=false) (hk:∀b:Bool,(b=true->k=0)->aB P ro all l ⟨(d,.a (.bool b))::f,n,S,ds⟩ K):aB P ro all (o::l) ⟨f,n,S,ds⟩ K:=by
 rintro ρ0 h0 ⟨af,n',h,ds'⟩ ⟨rfl,rfl,θ,ρ,hR,hF⟩;obtain⟨hd,_⟩:=cU hst;rw[hdst] at hd;obtain⟨a,ha,ka⟩:=aQ hF hx;have ha':ev (cg af n') x=some a:=ha;obtain⟨e',hu⟩:=iY ht;have hyv:ev (cg af n') (.const y)=some (.slice none 0 0 (some 0)):=hy
 have fin:∀b:Bool,bz P .eql t a (.slice none 0 0 (some 0))=some (.bool b)->(b=true->k=0)->eJ P ro all (o::l) ⟨af,n',h,ds'⟩ (λast'=>∃st',K st'/\st'.n=n'/\eN ρ0 h0 st' ast'):=by
  intro b hb hbk;refine .v hop hdst (bH hF (cI hst hw)) rfl hd (by rw[xN,ha',hyv,bc,bc,hb];rfl) ?_;exact hk b hbk ρ0 h0 _ ⟨rfl,rfl,θ,ρ,hR,hF.put (df hd) (by rw[VS])⟩
 rw[VS,GS] at ka
 rcases ka with⟨rfl,_,o',e'',c,rfl,_,_⟩ | ⟨id,off,cap,row,rfl,_⟩
 ·cases o' with
  | none=>exact fin true (by unfold bz;simp only[hg,ah,fU,hu,Option.isNone_none,bk]) λ_=>rfl
  | some q=>exact fin false (by unfold bz;simp only[hg,ah,fU,hu,bk]) λ_=>rfl
 ·exact fin false (by unfold bz;simp only[hg,ah,fU,hu,bk]) λh=>by cases h
def hosL(S:List SO)(r:Nat->Nat):List SO->List Nat->Prop
 | [],_=>True
 | so::l,o::os=>S[o]?=some (iK r so)/\hosL S r l os
 | _::_,[]=>False
def zu:∀{S0:List SO} {os:List Nat},hosL S r S0 os->∀(i:Nat) so,S0[i]?=some so->∃o,os[i]?=some o/\S[o]?=some (iK r so)
 | [],_,_,i,so,h=>by simp at h
 | s::l,o::os,hh,0,so,h=>by
  simp only[a7,Option.some.injEq] at h;subst h;exact⟨o,rfl,hh.1⟩
 | s::l,o::os,hh,i+1,so,h=>by
  simp only[ax] at h ⊢;exact zu hh.2 i so h
 | _::_,[],hh,_,_,_=>hh.elim
def aB.sk{all:List Oper}{o:Oper}{l:List Oper}{K:cM->Prop}{d:Nat}{c:Call}{g:FuncId}{vs ws:List SV}{mv:List Nat}{S0 S1 S2:List SO}{r0 r2:SV}{f2:Fm}(os:List Nat)(hst:cN all n [o]=true)(hop:o.op=.call c)(hdst:o.dst=some d)(hw:bB all f o.guard=some true)(hdy:dg (.call c)=true)
 (hc:callS P f c=some (g,vs)) (hq:SC P g ws S0 mv (λr S'=>r=r0/\S'=S1)) (hvs:fV (eM os S.length) ws=vs) (hK:os.length=S0.length) (hnd:os.Nodup) (hos:hosL S (eM os S.length) S0 os)
 (hb1:bV S1.length r0=true) (hb2:mC S1.length S1=true) (hr:de (eM os S.length) r0=r2) (hf:ic (forgot os mv S.length (S1.length-os.length)) f=f2) (hS:afterS S os mv S1=S2)
 (hk:aB P ro all l ⟨(d,r2)::f2,n,S2,ds⟩ K):aB P ro all (o::l) ⟨f,n,S,ds⟩ K:=by
 refine .sc os hst hop hdst hw hdy hc hq hvs hK hnd (zu hos) ?_ ?_
 ·rintro _ _ ⟨rfl,rfl⟩;exact⟨hb1,hb2⟩
 ·rintro _ _ ⟨rfl,rfl⟩;rw[hr,hf,hS];exact hk
def Bi.of{fn:Func}{K:Nat}{mv:List Nat}{Q:SV->List SO->Prop}{e:Ex}{rs:List ResultVar}{vs:List SV}(he:fj e=true)(hr:fn.results.toList=rs)(h:gB P f S rs=some vs)(hq:Q (bL vs) S)(hK:K<=S.length)(hw:∀i,i<K->i∉mv->aC f (1000000+i)=.ptr i 0):Bi P fn K mv Q e ⟨f,n,S,[]⟩:=
 ⟨he,rfl,⟨vs,by rw[hr];exact h,hq⟩,hK,hw⟩
end
open Go.RowKit
def AL(σ:Sg){vs:Array Value}(ih:∀i:Fin vs.size,∃a,V σ a vs[i]):∃a,V σ a (.agg vs):=by
 refine⟨.agg (ofFn λi=>(ih i).choose),.agg (fu) ?_⟩;intro i a v h1 h2;rw[eb] at h1;by_cases hi:i<vs.size
 ·rw[dif_pos hi] at h1;rw[bd hi] at h2;cases h1;cases h2;exact(ih ⟨i,hi⟩).choose_spec
 ·rw[dif_neg hi] at h1;cases h1
def DH(σ:Sg):∀(n:Nat) (v:Value),SizeOf.sizeOf v<n->∃a,V σ a v
 | 0,_,h=>t7 h (Nat.not_lt_zero _)
 | n+1,v,h=>by
  by_cases hv:∃vs,v=.agg vs
  ·obtain⟨vs,rfl⟩:=hv;refine AL σ λi=>DH σ n vs[i] ?_;have h1:SizeOf.sizeOf vs[i]<SizeOf.sizeOf vs:=Array.sizeOf_getElem vs i.1 i.2
   have h2:SizeOf.sizeOf (Value.agg vs)=1+SizeOf.sizeOf vs:=by simp
   omega
  ·exact⟨.any,.any λvs e=>hv ⟨vs,e⟩⟩
def EO(σ:Sg)(c:Array Value)(d:Nat):∀(n:Nat),d+n<=c.size->∃aS:List AV,aS.length=n/\∀(i:Nat) (a:AV),aS[i]?=some a->∃v,c[d+i]?=some v/\V σ a v:=by
 intro n hn;have ih:∀i:Fin n,∃a,V σ a (c[d+i.1]'(by have:=i.2;omega)):=λi=>DH σ _ _ (ch _);refine⟨ofFn λi=>(ih i).choose,fu,?_⟩;intro i a h1;rw[eb] at h1;by_cases hi:i<n
 ·rw[dif_pos hi] at h1;cases h1;have hs:=(ih ⟨i,hi⟩).choose_spec;exact⟨_,bd (by omega),hs⟩
 ·rw[dif_neg hi] at h1;cases h1
noncomputable def H.fq(h:H)(id aX:Nat)(cs:List AV):H:={ h with aD:=h.aD.put id (some (.cells cs aX)),low:=dF h.low id }
def HR.fq{σ:Sg}{h:H}{w:World}(hr:HR σ h w){id aX:Nat}{cs ex:List AV}{p:kR}(ho:h.aD.get id=some (.cells cs aX))(hp:σ id=some p){c:Array Value}{e:TypeId}(hb:w.heap[p.b]?=some (.cells c e (0,0)))
 (hl:cs.length+ex.length<=p.r) (hV:∀(i:Nat) (a:AV),ex[i]?=some a->∃v,c[p.d+cs.length+i]?=some v/\V σ a v):HR σ (h.fq id aX (cs++ex)) w/\Ext σ σ h (h.fq id aX (cs++ex)) w w:=by
 obtain⟨q,c0,e0,hq,h1,h2,h3,h4⟩:=hr.cells ho;rw[hp] at hq;cases hq;rw[hb] at h1;cases h1;have hm:=cj h.low id
 have get:∀j x,(h.fq id aX (cs++ex)).aD.get j=some x->(j=id/\x=.cells (cs++ex) aX)\/(j≠id/\h.aD.get j=some x):=by
  intro j x hx;simp only[H.fq,bU] at hx;split at hx
  ·rename_i e;cases hx;exact .inl ⟨e,rfl⟩
  ·rename_i hne;exact .inr ⟨hne,hx⟩
 have gm:∀j x,(h.fq id aX (cs++ex)).aD.get j=some x->∃y,h.aD.get j=some y/\(x=y\/(y=.cells cs aX/\x=.cells (cs++ex) aX)):=by
  intro j x hx
  rcases get j x hx with⟨rfl,rfl⟩ | ⟨_,h⟩
  ·exact⟨_,ho,.inr ⟨rfl,rfl⟩⟩
  ·exact⟨x,h,.inl rfl⟩
 refine⟨⟨?_,hr.fresh,?_,?_,b0 hm.1 hr.qo⟩,⟨λ_ _ h=>h,bi _,bi _,rfl,rfl,rfl,?_,λ_ _ _=>rfl,hm.1,?_,λ_ _ h=>h,?_⟩⟩
 ·intro j x hx
  rcases get j x hx with⟨rfl,rfl⟩ | ⟨_,h⟩
  ·refine⟨p,hp,c,e,hb,h2,by rw[c3];exact hl,?_⟩;intro i a ha;rw[d0] at ha;split at ha
   ·exact h4 i a ha
   ·rename_i hlt;obtain⟨v,hv,hV⟩:=hV _ a ha;rw[show p.d+cs.length+(i-cs.length)=p.d+i by omega] at hv;exact⟨v,hv,hV⟩
  ·exact hr.obj j x h
 ·intro i j x y q1 q2 hij hx hy a1 a2 hb2;obtain⟨x',g1,k1⟩:=gm i x hx;obtain⟨y',g2,k2⟩:=gm j y hy;have:=hr.sep i j x' y' q1 q2 hij g1 g2 a1 a2 hb2
  rcases this with⟨b1,b2,f,e1,e2⟩ | ⟨b1,b2,e1,e2⟩
  ·left
   rcases k1 with rfl | ⟨rfl,rfl⟩<;>rcases k2 with rfl | ⟨rfl,rfl⟩
   ·exact⟨_,_,f,e1,e2⟩
   ·cases e2;exact⟨_,_,_,e1,rfl⟩
   ·cases e1;exact⟨_,_,_,rfl,e2⟩
   ·exact⟨_,_,_,rfl,rfl⟩
  ·right
   rcases k1 with rfl | ⟨rfl,rfl⟩<;>rcases k2 with rfl | ⟨rfl,rfl⟩
   ·exact⟨_,_,e1,e2⟩
   ·cases e2
   ·cases e1
   ·cases e1
 ·intro i cs' f hi
  rcases get i _ hi with⟨rfl,e⟩ | ⟨_,h⟩
  ·cases e;exact hr.aX i _ _ ho
  ·exact hr.aX i _ _ h
 ·intro j x q hx hq;obtain⟨x',g1,k1⟩:=gm j x hx;refine .inr ⟨j,x',q,g1,hq,rfl,?_⟩
  rcases k1 with rfl | ⟨rfl,rfl⟩
  ·exact λh=>h
  ·exact λ_ cs e=>by cases e
 ·intro j hj hjn;simp only[H.fq,bU];rw[ul (by simp only[H.fq] at hj;omega)]
 ·intro j cs' f hj
  rcases get j _ hj with⟨rfl,e⟩ | ⟨_,h⟩
  ·cases e;exact .inr ⟨j,cs,ho⟩
  ·exact .inr ⟨j,cs',h⟩
def fE.xS{P:Program}{ro:Option Nat}{c:Code}{st:du}{Q:Ex->du->Prop}{i0 id len es aX:Nat}{cs:List AV}(hi:i0<st.n)(hf:st.f i0=.slice (some (id,0)) len es none)(ho:st.h.aD.get id=some (.cells cs aX))
 (hk:∀(cap:Nat) (ex:List AV),len<=cap->ex.length=cap*es-cs.length->fE P ro c ⟨qg st.f i0 (.slice (some (id,0)) len es (some cap)),st.n,st.h.fq id aX (cs++ex),st.ds⟩ Q):fE P ro c st Q:=by
 intro F n σ a w hs hF;have hv:=hs.t.2 i0 hi;rw[hf] at hv;obtain⟨p,c0,e0,hp,h1,h2,h3,h4⟩:=hs.h.cells ho;generalize hg:a.tmps.getD i0 undef=v at hv
 cases hv with
 | @slice _ _ _ _ _ ad p' cp hp' hl hr hc ha=>
  rw[hp] at hp';cases hp';rw[b9] at hr;obtain⟨ex,hx1,hx2⟩:=EO σ c0 (p.d+cs.length) (cp*es-cs.length) (by omega);obtain⟨g1,g2⟩:=hs.h.fq ho hp h1 (ex:=ex) (by omega) hx2;refine(hk cp ex hl hx1).wide (σ:=σ) ?_ hF g2 rfl;refine⟨⟨hs.t.1,λi hi'=>?_⟩,g1,hs.ds⟩;by_cases e:i=i0
  ·subst e;rw[hg];show V σ (qg st.f i _ i) _;rw[mq];exact .slice hp hl (by omega) (λx hx=>by cases hx;rfl) ha
  ·show V σ (qg st.f i0 _ i) _;rw[j7 _ _ e];exact hs.t.2 i hi'
def tZ{θ:Nat->Loc}{ρ:ff}:∀(aS:List AV),bK θ ρ (dc aS.length .any) aS
 | []=>by rw[d1,List.replicate_zero,aI]
 | a::aS=>by
  rw[cf,List.replicate_succ,az];exact⟨a,aS,rfl,by rw[VS];trivial,tZ aS⟩
def ak.xS{P:Program}{ro:Option Nat}{c:Code}{f:Fm}{n:Nat}{S:List SO}{ds:List eE}{Q:Ex->cM->Prop}(i0:Nat){o len e:Nat}{cs:List SV}(hi:i0<n)(hf:aC f i0=.buf o len e none)(hS:S[o]?=some (.cells cs))
 (hk:∀cap,len<=cap->ak P ro c ⟨(i0,.buf o len e (some cap))::f,n,S.set o (.cells (cs++dc (cap*e-cs.length) .any)),ds⟩ Q):ak P ro c ⟨f,n,S,ds⟩ Q:=by
 rintro ρ0 h0 ⟨af,n',h,ds'⟩ ⟨rfl,rfl,θ,ρ,hR,hF⟩;obtain⟨hL,aS,g1,g2,g3⟩:=hR.obj o _ hS (λh=>by cases h);have hv:=hF.v i0;rw[hf,VS] at hv;rw[t8 hi] at hv;refine fE.xS hi hv g1 ?_;intro cap ex hle hex;have hlen:=g2.length;refine hk cap hle ρ0 h0 _ ⟨rfl,rfl,θ,ρ,?_,?_⟩
 ·have hidr:¬h0.pr (θ o).id:=by
   rcases hL.e with e | e<;>rw[e]
   ·exact hL.x.1
   ·exact hL.y.1
  have hm:=cj h.low (θ o).id
  have hlo:h0.lo<=dF h.low (θ o).id:=by
   have:=hR.ok.lo _ hidr;have:=hR.lw;unfold dF;cases ble h.low (θ o).id<;>simpa
  have get:∀j,j≠(θ o).id->(h.fq (θ o).id (θ o).aX (aS++ex)).aD.get j=h.aD.get j:=by
   intro j hj;simp only[H.fq,bU];rw[ul hj]
  have own:∀p so,(S.set o (.cells (cs++dc (cap*e-cs.length) .any)))[p]?=some so->(p=o/\so=.cells (cs++dc (cap*e-cs.length) .any))\/(p≠o/\S[p]?=some so):=by
   intro p so hp;by_cases e:p=o
   ·subst e;rw[ba (aE hS)] at hp;cases hp;exact .inl ⟨rfl,rfl⟩
   ·rw[be (λh=>e h.symm)] at hp;exact .inr ⟨e,hp⟩
  have sepo:∀p so,p≠o->S[p]?=some so->so≠.gone->(θ p).id≠(θ o).id:=by
   intro p so hp h1 h2 e;have sp:=hR.sep p o so _ hp h1 h2 hS (λh=>by cases h);obtain⟨k,_⟩:=hR.obj p so h1 h2
   rcases k.e with e1 | e1<;>rcases hL.e with e2 | e2<;>rw[e1,e2] at e
   ·exact sp.xx e
   ·exact sp.xy e
   ·exact sp.yx e
   ·exact sp.yy e
  refine⟨hR.ok,hR.nx,λj hj=>?_,hR.fm,hlo,b0 hm.1 hR.ln,?_,?_,?_,hR.gm⟩
  ·rw[get j (λe=>hidr (e▸hj))];exact hR.ob j hj
  ·intro p so hp hg
   rcases own p so hp with⟨rfl,rfl⟩ | ⟨hne,hp'⟩
   ·refine⟨hL,aS++ex,?_,?_,g3⟩
    ·simp only[H.fq,bU];rw[t8 trivial]
    ·refine g2.app ?_;rw[<-hlen,<-hex];exact tZ ex
   ·obtain⟨k1,k2⟩:=hR.obj p so hp' hg;refine⟨k1,?_⟩;have hid:=sepo p so hne hp' hg
    cases so with
    | cells cs'=>obtain⟨as',q1,q2,q3⟩:=k2;exact⟨as',by rw[get _ hid];exact q1,q2,q3⟩
    | map ks vs b=>obtain⟨l,c,q1,q2,q3⟩:=k2;exact⟨l,c,by rw[get _ hid];exact q1,q2,q3⟩
    | iter m bs c pos=>obtain⟨mid,q1,q2⟩:=k2;exact⟨mid,q1,by rw[get _ hid];exact q2⟩
    | kT ks vs bs c pos=>obtain⟨mid,l,q1,q2,q3,q4⟩:=k2;exact⟨mid,l,q1,q2,q3,by rw[get _ hid];exact q4⟩
    | gone=>trivial
    | loop=>obtain⟨q1,q2,q3⟩:=k2;exact⟨q1,by rw[get _ hid];exact q2,q3⟩
    | ik=>exact⟨k2.1,by rw[get _ hid];exact k2.2⟩
  ·intro p p' so so' hpp hp hg hp' hg'
   rcases own p so hp with⟨rfl,rfl⟩ | ⟨hne,hq⟩<;>rcases own p' so' hp' with⟨rfl,rfl⟩ | ⟨hne',hq'⟩
   ·exact t7 rfl hpp
   ·exact hR.sep p p' _ so' hpp hS (λh=>by cases h) hq' hg'
   ·exact hR.sep p p' so _ hpp hq hg hS (λh=>by cases h)
   ·exact hR.sep p p' so so' hpp hq hg hq' hg'
  ·intro id ob hi';obtain⟨r1,r2,r3⟩:=hR.row id ob hi'
   have hne:id≠(θ o).id:=by
    have:=r3 o _ hS (λh=>by cases h)
    rcases hL.e with e | e<;>rw[e]
    ·exact this.1
    ·exact this.2
   refine⟨r1,by rw[get _ hne];exact r2,λp so hp hg=>?_⟩
   rcases own p so hp with⟨rfl,rfl⟩ | ⟨_,hq⟩
   ·exact r3 p _ hS (λh=>by cases h)
   ·exact r3 p so hq hg
 ·refine⟨λi=>?_,hF.u⟩;show VS θ ρ (if i0=i then _ else aC f i) _;by_cases e:i0=i
  ·subst e;rw[t8 rfl,VS];simp only[t8 hi,mq]
  ·rw[ul e];have:=hF.v i;by_cases hi2:i<n'
   ·rw[t8 hi2] at this ⊢;simp only;rw[j7 _ _ (λh=>e h.symm)];exact this
   ·rw[ul hi2] at this ⊢;exact this
def vk(a b:Nat):dF a b=min a b:=by
 unfold dF;cases h:ble a b
 ·have:¬a<=b:=λe=>by rw[cP e] at h;cases h
  rw[ah];omega
 ·have:=eu h;rw[ab];omega
def A4{h h1:H}{id off aX x y:Nat}{cs xs:List AV}(ho:h.aD.get id=some (.cells cs aX))(hf:h.bW.get aX=some (x,y))(hid:id<h.next)(hx:x<h.next)(hy:y<h.next)
 (hs:({ h with low:=h.next }:H).store id off xs=some h1):h.store id off xs=some { h1 with low:=dF h.low h1.low }:=by
 unfold H.store at hs ⊢;simp only[ho] at hs ⊢;cases hc:(ble (off+xs.length) cs.length&&xs.all fz)
 ·rw[hc,ah] at hs;cases hs
 ·rw[hc,ab] at hs;rw[ab];cases hs;unfold H.alone;simp only[hf];cases hb:(beq x id&&beq y id)
  ·simp only[ah,vk,Option.some.injEq,H.mk.injEq,true_and];omega
  ·simp only[ab,vk,Option.some.injEq,H.mk.injEq,true_and];omega
def SC.row{P:Program}{g:FuncId}{args cs cs':List SV}{r0:SV}(hlen:cs'.length=cs.length)(hone:∀(θ:Nat->Loc) (ρ:ff) (xs:List AV),bK θ ρ cs' xs->xs.all fz=true)
 (H:∀(E:En) (θ:Nat->Loc) (ρ:ff) (h:H) (avs asx:List AV) (aX:Nat),E.h={ h with low:=h.next }->RS θ ρ ρ E E.h [.cells cs]->bK θ ρ args avs->h.aD.get (θ 0).id=some (.cells asx aX)->bK θ ρ cs asx->
  (∃q:Nat×Nat,h.bW.get aX=some (q.1,q.2)/\((θ 0).id=q.1\/(θ 0).id=q.2)/\q.1<h.next/\q.2<h.next/\aX<h.next/\(θ 0).id<h.next)->
  cx P (.func g) avs h (λv h'=>VS θ ρ r0 v/\∃xs,bK θ ρ cs' xs/\h.store (θ 0).id 0 xs=some h')):SC P g args [.cells cs] [] (λr S'=>r=r0/\S'=[.cells cs']):=by
 intro E θ ρ h avs hE hR hA;obtain⟨⟨k1,k2,k3,k4⟩,asx,q1,q2,q3⟩:=hR.obj 0 _ rfl (λh=>by cases h)
 have hidn:(θ 0).id<E.h.next:=by rcases k1 with e | e<;>rw[e];exact k2.2;exact k3.2
 have e1:E.h.aD=h.aD:=by rw[hE]
 have e2:E.h.bW=h.bW:=by rw[hE]
 have e3:E.h.next=h.next:=by rw[hE]
 rw[e1] at q1;rw[e2] at q3;rw[e3] at hidn;have kx:=k2.2;have ky:=k3.2;have kf:=k4.2;rw[e3] at kx ky kf;refine(H E θ ρ h avs asx (θ 0).aX hE hR hA q1 q2 ⟨((θ 0).x,(θ 0).y),q3,k1,kx,ky,kf,hidn⟩).mono ?_;rintro v h' ⟨hv,xs,hxs,hst⟩;obtain⟨h1,g1,g2,g3⟩:=hR.store (o:=0) (cs:=cs) (vs:=cs') (off:=0) rfl hxs (hone θ ρ xs hxs) (by omega);rw[hE] at g1;have g4:=A4 q1 q3 hidn kx ky g1;rw[hst] at g4;cases g4;refine⟨r0,[.cells cs'],_,ρ,h1,⟨rfl,rfl⟩,rfl,?_,g3 _ _ hv,bi _,?_⟩
 ·have:(cs.take 0++(cs'++cs.drop (0+cs'.length)))=cs':=by
   rw[b9,hlen,eF,f4,d8,List.nil_append]
  rw[this] at g2;exact g2
 ·intro i hi _
  have:i=0:=by
   have:i<1:=hi;omega
  subst this;rw[bp]
def Fg.e0{f:Fm}{n:Nat}{S:List SO}{ds:List eE}(i e:Nat)(h:aC f i=.a (.slice none 0 0 (some 0))\/∃o,aC f i=.buf o 0 e (some 0)):Fg ⟨f,n,S,ds⟩ ⟨(i,.e0 e)::f,n,S,ds⟩:=by
 refine⟨rfl,?_⟩;rintro ρ0 h0 ⟨af,n',hh,ds'⟩ ⟨rfl,rfl,θ,ρ,hR,hF⟩;refine⟨rfl,rfl,θ,ρ,hR,λj=>?_,hF.u⟩;show VS θ ρ (if i=j then _ else aC f j) _;by_cases e1:i=j
 ·subst e1;rw[t8 rfl];have:=hF.v i
  rcases h with h | ⟨o,h⟩
  ·rw[h,VS] at this;rw[VS,this];exact⟨none,0,rfl,λh=>t7 rfl h⟩
  ·rw[h,VS] at this;rw[VS,this];exact⟨_,e,rfl,λ_=>rfl⟩
 ·rw[ul e1];exact hF.v j
def DS(K:Act->World->Prop)(Q:Exit->Act->World->Prop):Exit->Act->World->Prop
 | .normal,a,w=>K a w
 | e,a,w=>Q e a w
def yQ{F:Fence}{n:Nat}{P:Program}{o:Oper}{a:Act}{next K:Act->World->Prop}{Q:Exit->Act->World->Prop}(r:Result Next):o.uponIn F n P a next (DS K Q) r=o.uponIn F n P a next Q r:=by
 unfold Oper.uponIn;split<;>rfl
def Fk(P:Program)(ro:Option Nat)(ol:List Oper)(i:Nat)(st:du)(K:du->Prop):Prop:=∀(ops:Array Oper),ops.toList=ol->∀(F:Fence) (n:Nat) (σ:Sg) (a:Act) (w:World) (K':Act->World->Prop) (Q:Exit->Act->World->Prop),
 SF σ st a w->sf σ ro F->(∀st' a' w' σ',K st'->SF σ' st' a' w'->Ext σ σ' st.h st'.h w w'->st'.n=st.n->K' a' w')->wpOpIn F n P ops Q i K' a w
def Fk.of{P:Program}{ro:Option Nat}{ol:List Oper}{i:Nat}{o:Oper}{st:du}{K:du->Prop}(ho:ol[i]?=some o)(hg:∀j b,o.guard=some (j,b)->j<i)(h:eJ P ro (ol.take (i+1)) [o] st K):Fk P ro ol i st K:=by
 intro ops hops F n σ a w K' Q hs hF hk
 have hlt:i<ol.length:=by
  rcases Nat.lt_or_ge i ol.length with h | h
  ·exact h
  ·rw[bw h] at ho;cases ho
 have hdrop:((ol.take (i+1)).toArray.toList).drop i=[o]:=by
  rw[d6,List.drop_take,show i+1-i=1 by omega]
  have:ol.drop i=o::ol.drop (i+1):=by
   rw[co hlt];rw[ac hlt] at ho;cases ho;rfl
  rw[this];rfl
 have:=h (ol.take (i+1)).toArray i (d6) hdrop F n σ a w (DS K' Q) hs hF λst' a' w' σ' h1 h2 h3 h4=>hk st' a' w' σ' h1 h2 h3 h4;rw[show List.range' i [o].length=[i] from rfl,wpOpsIn_cons] at this;unfold wpOpIn at this ⊢
 have ho1:(ol.take (i+1)).toArray[i]?=some o:=by
  rw[dv,ei,t8 (by omega)];exact ho
 have ho2:ops[i]?=some o:=by rw[<-b8,hops];exact ho
 rw[ho1] at this;rw[ho2];simp only at this ⊢
 have hw:Region.wanted o (yielded ops a.tmps)=Region.wanted o (yielded (ol.take (i+1)).toArray a.tmps):=by
  unfold Region.wanted
  cases hgd:o.guard with
  | none=>rfl
  | some jb=>
   obtain⟨j,b⟩:=jb;simp only;have hj:=hg j b hgd
   have:yielded ops a.tmps j=yielded (ol.take (i+1)).toArray a.tmps j:=by
    unfold yielded;rw[<-b8 (xs:=ops),hops,dv,ei,t8 (by omega)]
   rw[this]
 rw[hw];cases hc:Region.wanted o (yielded (ol.take (i+1)).toArray a.tmps)
 ·rw[hc] at this;simp only[Bool.false_eq_true,if_false] at this ⊢;exact this
 ·rw[hc] at this;simp only[if_true] at this ⊢;unfold Oper.wpIn at this ⊢;refine⟨this.1,?_⟩;have h2:=this.2;rw[yQ] at h2;exact h2
def eJ.mono{P:Program}{ro:Option Nat}{all l:List Oper}{st:du}{K K':du->Prop}(h:eJ P ro all l st K)(hk:∀x,K x->K' x):eJ P ro all l st K':=
 λops i h1 h2 F n σ a w Q hs hF hQ=>h ops i h1 h2 F n σ a w Q hs hF λst' a' w' σ' hK=>hQ st' a' w' σ' (hk _ hK)
def dep(e:Edge):Bool:=Region.binds .any e
def fX:Nat->List Oper->Bool
 | _,[]=>true
 | i,o::l=>(o.after.toList.all λe=>!(dep e)||blt e.on i)&&fX (i+1) l
def iO:∀{l:List Oper} {k i:Nat} {o:Oper},fX k l=true->l[i]?=some o->∀e∈o.after.toList,dep e=true->e.on<k+i
 | [],_,_,_,_,h=>by simp at h
 | x::l,k,0,o,hb,h=>by
  simp only[a7,Option.some.injEq] at h;subst h;intro e he hd;rw[fX,aj,all_eq_true] at hb;have:=hb.1 e he;rw[hd,Bool.not_true,Bool.false_or] at this;exact df this
 | x::l,k,i+1,o,hb,h=>by
  simp only[ax] at h;rw[fX,aj] at hb;intro e he hd;have:=iO hb.2 h e he hd;omega
structure Fl (ol:List Oper) (L:Nat->Prop) (i:Nat) (o:Oper):Prop where
 at':ol[i]?=some o
 new:¬L i
 dep:∀e∈o.after.toList,Ev.dep e=true->L e.on
def fE.any{P:Program}{ro:Option Nat}{id:Nat}{ops:Array Oper}{st:du}{Q:Ex->du->Prop}{ol:List Oper}(hol:ops.toList=ol)(hok:(fX 0 ol&&P.follows .mixedOrders)=true)(J:(Nat->Prop)->du->Prop)(h0:J (λ_=>False) st)(hn:∀L x,J L x->x.n=st.n)
 (hstep:∀L x i o,J L x->Fl ol L i o->Fk P ro ol i x (J λj=>L j\/j=i)) (hend:∀L x,J L x->(∀i,i<ol.length->L i)->Q .normal x):fE P ro (.region id ops true) st Q:=by
 rw[aj] at hok;obtain⟨hback,hmix⟩:=hok
 have hsz:ops.size=ol.length:=by rw[<-hol];simp
 intro F nn σ0 a0 w0 hs0 hF0;refine wpIn_region_draw λt=>?_;simp only[Region.schedule,hmix,Bool.true_or,if_true];have hE2:Ext σ0 σ0 st.h st.h w0 { w0 with drawn:=w0.drawn+1 }:=Ext.of_eq rfl rfl rfl rfl;refine wpAnyIn_sound ops.size t _ a0 _ ?_
 have key:∀(fuel:Nat) (listed:Array Bool) (x:du) (σ:Sg) (a:Act) (w:World),listed.size=ops.size->left listed ops.size<=fuel->J (λj=>listed.getD j false=true) x->SF σ x a w->sf σ ro F->Ext σ0 σ st.h x.h w0 w->
  wpAnyIn F nn P .any ops (qT σ0 st.h w0 st.n Q) fuel listed a w:=by
  intro fuel
  have hdone:∀(listed:Array Bool) (x:du) (σ:Sg) (a:Act) (w:World),listed.size=ops.size->J (λj=>listed.getD j false=true) x->SF σ x a w->Ext σ0 σ st.h x.h w0 w->Region.ready .any ops listed=[]->qT σ0 st.h w0 st.n Q .normal a w:=by
   intro listed x σ a w hls hJ hs hE hr
   have hall:∀i,i<ol.length->listed.getD i false=true:=by
    intro i
    induction i using Nat.strongRecOn with
    | _ i ih=>
     intro hi;cases hb:listed.getD i false
     ·exfalso
      have hi':i<ops.size:=by omega
      have hoi:ops[i]?=some ops[i]:=bd hi'
      have hoi':ol[i]?=some ops[i]:=by rw[<-hol,b8];exact hoi
      have hm:i∈Region.ready .any ops listed:=by
       refine mem_ready.2 ⟨?_,ops[i],hoi,λe he hbind=>?_⟩
       ·rw[ap] at hb ⊢;rw[bd (by omega)] at hb ⊢;exact hb
       ·have hlt:=iO hback hoi' e (by simpa using he) hbind;rw[b9] at hlt;exact ih e.on hlt (by omega)
      rw[hr] at hm;simp at hm
     ·rfl
   exact⟨.normal,x,hend _ x hJ hall,rfl,σ,hs,hE,hn _ x hJ⟩
  induction fuel with
  | zero=>
   intro listed x σ a w hls hle hJ hs hF hE
   have hr:Region.ready .any ops listed=[]:=by
    cases hr:Region.ready .any ops listed with
    | nil=>rfl
    | cons i rs=>
     exfalso
     have hm:i∈Region.ready .any ops listed:=by rw[hr];exact al ..
     obtain⟨h1,o,h2,_⟩:=mem_ready.1 hm;have hi:i<ops.size:=(Array.getElem?_eq_some_iff.1 h2).1
     have:i∈(ci ops.size).filter λi=>!listed.getD i false:=by
      refine mem_filter.2 ⟨mem_range.2 hi,?_⟩;rw[ap,bd (by omega)] at h1 ⊢;simp only[Option.getD_some] at h1 ⊢;rw[h1];rfl
     have h0:((ci ops.size).filter λi=>!listed.getD i false).length=0:=by unfold left at hle;omega
     rw[List.length_eq_zero_iff.1 h0] at this;simp at this
   exact⟨hr,hdone listed x σ a w hls hJ hs hE hr⟩
  | succ fuel ih=>
   intro listed x σ a w hls hle hJ hs hF hE;refine⟨hdone listed x σ a w hls hJ hs hE,λi hi=>?_⟩;obtain⟨h1,o,h2,h3⟩:=mem_ready.1 hi;have hlt:i<ops.size:=(Array.getElem?_eq_some_iff.1 h2).1
   have hfalse:listed.getD i false=false:=by
    rw[ap,bd (by omega)] at h1 ⊢;exact h1
   have hrd:Fl ol (λj=>listed.getD j false=true) i o:=⟨by rw[<-hol,b8];exact h2,by rw[hfalse];simp,λe he hb=>h3 e (by simpa using he) hb⟩;refine hstep _ x i o hJ hrd ops hol F nn σ a w _ _ hs hF ?_;intro x' a' w' σ' hJ' hs' hE' hn';refine ih _ x' σ' a' w' (by simpa using hls) ?_ ?_ hs' (hF.mono hE'.le) (hE.trans hE')
   ·have:left (listed.setIfInBounds i true) ops.size<left listed ops.size:=by
     unfold left;refine filter_lt _ ?_ ⟨i,mem_range.2 hlt,by rw[hfalse];rfl,?_⟩
     ·intro y _ hy;by_cases e:i=y
      ·subst e;rw[ap,b6,t8 rfl,t8 (by omega)] at hy;simp at hy
      ·rw[getD_set_ne false e] at hy;exact hy
     ·rw[ap,b6,t8 rfl,t8 (by omega)];rfl
    omega
   ·have:(λj=>(listed.setIfInBounds i true).getD j false=true)=λj=>listed.getD j false=true\/j=i:=by
     funext j;refine propext ⟨λh=>?_,λh=>?_⟩
     ·by_cases e:i=j
      ·exact .inr e.symm
      ·rw[getD_set_ne false e] at h;exact .inl h
     ·rcases h with h | rfl
      ·exact getD_set_true h
      ·rw[ap,b6,t8 rfl,t8 (by omega)];rfl
    rw[this];exact hJ'
 have hrep:∀j,(c4 ops.size false).getD j false=false:=by
  intro j;rw[ap,Array.getElem?_replicate];split<;>rfl
 refine key ops.size _ st σ0 a0 _ (by simp) ?_ ?_ ⟨hs0.t,hs0.h.congr rfl,hs0.ds⟩ hF0 hE2
 ·unfold left;exact b0 (List.length_filter_le _ _) (by simp)
 ·have hS:(λj=>(c4 ops.size false).getD j false=true)=λ_=>False:=by
   funext j;rw[hrep];simp
  rw[hS];exact h0
def ak.any{P:Program}{ro:Option Nat}{id:Nat}{ops:Array Oper}{st:cM}{Q:Ex->cM->Prop}{ol:List Oper}(hol:ops.toList=ol)(hok:(fX 0 ol&&P.follows .mixedOrders)=true) (hgd:(ol.all λo=>match o.guard with
 | none=>true
 | some _=>false)=true\/∀(i:Nat) (o:Oper),ol[i]?=some o->∀(j:Nat) (b:Bool),o.guard=some (j,b)->j<i) (J:(Nat->Prop)->cM->Prop) (h0:J (λ_=>False) st) (hn:∀L x,J L x->x.n=st.n)
 (hstep:∀L x i o,J L x->Fl ol L i o->aB P ro (ol.take (i+1)) [o] x (J λj=>L j\/j=i)) (hend:∀L x,J L x->(∀i,i<ol.length->L i)->Q .normal x):ak P ro (.region id ops true) st Q:=by
 intro ρ0 h0' ast hs;refine fE.any hol hok (λL ast'=>∃x,J L x/\eN ρ0 h0' x ast') ⟨st,h0,hs⟩ ?_ ?_ ?_
 ·rintro L ast' ⟨x,hJ,hx⟩;rw[hx.1,hn L x hJ,hs.1]
 ·rintro L ast' i o ⟨x,hJ,hx⟩ hr;refine Fk.of hr.at' ?_ ?_
  ·intro j b hg
   rcases hgd with hgd | hgd
   ·have:=all_eq_true.1 hgd o (d3 hr.at');rw[hg] at this;cases this
   ·exact hgd i o hr.at' j b hg
  ·have:=hstep L x i o hJ hr ρ0 h0' ast' hx;refine this.mono ?_;rintro a' ⟨x',k1,k2,k3⟩;exact⟨x',k1,k3⟩
 ·rintro L ast' ⟨x,hJ,hx⟩ hall;exact⟨x,hend L x hJ hall,hn L x hJ,hx⟩
section
variable {P:Program} {ro:Option Nat} {all l:List Oper} {f:Fm} {n:Nat} {S:List SO} {ds:List eE} {K:cM->Prop}
def aB.fg{st st':cM}(hf:Fg st st')(h:aB P ro all l st' K):aB P ro all l st K:=by
 intro ρ0 h0 ast hs;refine eJ.mono (h ρ0 h0 ast (hf.2 ρ0 h0 ast hs)) ?_;rintro a ⟨x,k1,k2,k3⟩;exact⟨x,k1,k2.trans hf.1,k3⟩
def Fg.tmps{f':Fm}(hf:∀i,aC f' i=aC f i\/aC f' i=.any):Fg ⟨f,n,S,ds⟩ ⟨f',n,S,ds⟩:=by
 refine⟨rfl,?_⟩;rintro ρ0 h0 ⟨af,n',hh,ds'⟩ ⟨rfl,rfl,θ,ρ,hR,hF⟩;refine⟨rfl,rfl,θ,ρ,hR,λi=>?_,hF.u⟩
 rcases hf i with e | e
 ·rw[e];exact hF.v i
 ·rw[e,VS];trivial
end
def si(P:Program)(g:FuncId):Prop:=∀(w:World) (a b:Addr) (la ca lb cb:Nat) (tA tB:TypeId) (kA kB:Nat),a.block≠b.block->w.shape? a.block=some (tA,kA)->w.shape? b.block=some (tB,kB)->kB≠0->w.frozen? a=false->w.frozen? { block:=a.block,off:=kA }=false->
 (callFunc g #[.slice (some a) la ca,.slice (some b) lb cb]).run P w=.ok (.value (.bool false)) w
def rp{w:World}{b o:Nat}{c:Array Value}{e:TypeId}(h:w.heap[b]?=some (.cells c e (0,0))):w.frozen? { block:=b,off:=o }=false:=by
 unfold World.frozen?;simp only[h];simp
def AX{P:Program}{g:FuncId}(hg:si P g){i1 o1 n1 e1 k1 i2 o2 n2 e2 k2 f1 f2:Nat}{cs1 cs2:List AV}{h:H}(hi:i1≠i2)(h1:h.aD.get i1=some (.cells cs1 f1))(h2:h.aD.get i2=some (.cells cs2 f2))(hf:f1≠f2)(hk1:0<k1)(hk2:0<k2)(he:0<cs2.length):
 cx P (.func g) [.slice (some (i1,o1)) n1 e1 (some k1),.slice (some (i2,o2)) n2 e2 (some k2)] h (λa h'=>a=.bool false/\h'=h):=by
 intro σ w args' hv hr;obtain⟨v1,v2,rfl,q1,q2⟩:=By hv;obtain⟨p1,c1,t1,hp1,hb1,hz1,hl1,_⟩:=hr.cells h1;obtain⟨p2,c2,t2,hp2,hb2,hz2,hl2,_⟩:=hr.cells h2
 cases q1 with
 | @slice _ _ _ _ _ a1 p1' x1 hs1 hle1 hr1 hc1 ha1=>
 cases q2 with
 | @slice _ _ _ _ _ a2 p2' x2 hs2 hle2 hr2 hc2 ha2=>
 rw[hp1] at hs1;cases hs1;rw[hp2] at hs2;cases hs2;have hx1:=hc1 k1 rfl;subst hx1;have hx2:=hc2 k2 rfl;subst hx2;have ha1:=ha1.resolve_right (by omega);have ha2:=ha2.resolve_right (by omega);subst ha1;subst ha2
 have hne:p1.b≠p2.b:=by
  intro e
  rcases hr.sep i1 i2 _ _ p1 p2 hi h1 h2 hp1 hp2 e with⟨_,_,f,e3,e4⟩ | ⟨_,_,e3,e4⟩
  ·cases e3;cases e4;exact hf rfl
  ·cases e3
 have hrun:=hg w ⟨p1.b,p1.d+o1,none⟩ ⟨p2.b,p2.d+o2,none⟩ n1 k1 n2 k2 t1 t2 c1.size c2.size hne (by unfold World.shape?;simp only[hb1]) (by unfold World.shape?;simp only[hb2]) (by omega) (rp hb1) (rp hb1);rw[hrun];exact⟨.bool false,h,⟨rfl,rfl⟩,σ,.bool false,hr,.refl _ _ _⟩
def Dk:SV->Option (Nat×Nat×Nat×Nat×Nat)
 | .buf o n e (some k)=>some (o,0,n,e,k)
 | .sub o off n e (some k)=>some (o,off,n,e,k)
 | _=>none
def aB.FU{P:Program}{ro:Option Nat}{all:List Oper}{o:Oper}{l:List Oper}{f:Fm}{n:Nat}{S:List SO}{ds:List eE}{K:cM->Prop}{d:Nat}{c:Call}{g:FuncId}{v1 v2:SV}{a1 b1 n1 e1 k1 a2 b2 n2 e2 k2:Nat}{cs1 cs2:List SV}(hg:si P g)(hst:cN all n [o]=true)(hop:o.op=.call c)(hdst:o.dst=some d)(hw:bB all f o.guard=some true)(hdy:dg (.call c)=true)
 (hc:callS P f c=some (g,[v1,v2])) (hv1:Dk v1=some (a1,b1,n1,e1,k1)) (hv2:Dk v2=some (a2,b2,n2,e2,k2)) (hS1:S[a1]?=some (.cells cs1)) (hS2:S[a2]?=some (.cells cs2)) (hne:a1≠a2) (hk1:0<k1) (hk2:0<k2) (he:0<cs2.length)
 (hk:aB P ro all l ⟨(d,.a (.bool false))::f,n,S,ds⟩ K):aB P ro all (o::l) ⟨f,n,S,ds⟩ K:=by
 rintro ρ0 h0 ⟨af,n',h,ds'⟩ ⟨rfl,rfl,θ,ρ,hR,hF⟩
 have hd:blt d n'=true:=by
  have:=(cU hst).1;rw[hdst] at this;exact this
 obtain⟨xs,cap,h1,h2⟩:=oP hF hc;obtain⟨L1,as1,q1,q2,q3⟩:=hR.obj a1 _ hS1 (λh=>by cases h);obtain⟨L2,as2,r1,r2,r3⟩:=hR.obj a2 _ hS2 (λh=>by cases h);have sp:=hR.sep a1 a2 _ _ hne hS1 (λh=>by cases h) hS2 (λh=>by cases h)
 have hid:(θ a1).id≠(θ a2).id:=by
  rcases L1.e with e | e<;>rcases L2.e with e' | e'<;>rw[e,e']
  ·exact sp.xx
  ·exact sp.xy
  ·exact sp.yx
  ·exact sp.yy
 rw[az] at h2;obtain⟨x1,rr,hxs,w1,h3⟩:=h2;rw[az] at h3;obtain⟨x2,r',rfl,w2,h4⟩:=h3;rw[aI] at h4;subst h4
 have own:∀{v:SV} {a b m e k:Nat} {x:AV},Dk v=some (a,b,m,e,k)->VS θ ρ v x->x=.slice (some ((θ a).id,b)) m e (some k):=by
  intro v a b m e k x hv hx;unfold Dk at hv;split at hv
  ·cases hv;rw[VS] at hx;exact hx
  ·cases hv;rw[VS] at hx;exact hx
  ·cases hv
 have e1:=own hv1 w1;have e2:=own hv2 w2;subst e1;subst e2;refine .c hop hdst (bH hF (cI hst hw)) hdy hd h1 hxs (AX hg hid q1 r1 sp.f hk1 hk2 (by rw[r2.length];exact he)) ?_;rintro v h' ⟨rfl,rfl⟩;exact hk ρ0 h0 _ ⟨rfl,rfl,θ,ρ,hR,hF.put (df hd) (by rw[VS])⟩
section
variable {θ θ':Nat->Loc} {ρ ρ0 ρ':ff} {P:Program} {h0:En} {h h1:H} {S S' S0:List SO}
def nR(B:Nat)(f:Fm):Bool:=f.all λp=>blt p.1 B
def lE{B:Nat}:∀{f:Fm},nR B f=true->∀{i:Nat},B<=i->aC f i=.any
 | [],_,i,_=>rfl
 | (d,v)::f,h,i,hi=>by
  unfold nR at h;rw[dt,aj] at h;have h1:=df h.1;show(if d=i then v else aC f i)=.any;rw[ul (by simp only at h1;omega)];exact lE h.2 hi
def uJ{d:eE}{ds:List eE}{j:Nat}(h:j<ds.length):EA (d::ds) j=EA ds j:=by
 unfold EA;rw[er,ct (by simpa using h)]
def zh{d:eE}{ds:List eE}{f:Fn}(h:d.fn=some f):EA (d::ds) ds.length=.fn f d.args d.cap:=by
 unfold EA;rw[er,b7 (by simp),List.length_reverse,eB];simp[h]
def jj(w:Nat->AV)(ds:List eE){i:Nat}(h:i<7000000):od w ds i=w i:=by
 cases ds with
 | nil=>rfl
 | cons d ds=>rw[od,ul (by omega)]
def FR.push{f:Fm}{af:Nat->AV}{n:Nat}{w:Nat->AV}{ds:List eE}(d:eE)(hF:FR θ ρ (aC f) af n (od w ds))(hl:nR (7000000+ds.length) f=true):FR θ ρ (aC f) af n (od w (d::ds)):=by
 refine⟨λi=>?_,λi hi=>by have:=hF.u i hi;rw[jj _ _ (by omega)] at this ⊢;exact this⟩
 have key:od w (d::ds) i=od w ds i\/aC f i=.any:=by
  by_cases h1:i<7000000
  ·rw[jj _ _ h1,jj _ _ h1];exact .inl rfl
  ·by_cases h2:i-7000000<ds.length
   ·cases ds with
    | nil=>simp at h2
    | cons d' ds=>
     rw[od,od,t8 (by omega),t8 (by omega),uJ h2];exact .inl rfl
   ·exact .inr (lE hl (show 7000000+ds.length<=i by omega))
 rcases key with e | e
 ·rw[e];exact hF.v i
 ·rw[e,VS];trivial
def upF(B:Nat):Fm->Fm
 | []=>[]
 | (d,v)::f=>(d+B,v)::upF B f
def dnF(B:Nat):Fm->Fm
 | []=>[]
 | (d,v)::f=>if B<=d then (d-B,v)::dnF B f else dnF B f
def lq{B:Nat}:∀(f:Fm) (i:Nat),aC (upF B f) i=if B<=i then aC f (i-B) else .any
 | [],i=>by split<;>rfl
 | (d,v)::f,i=>by
  show(if d+B=i then v else aC (upF B f) i)=if B<=i then (if d=i-B then v else aC f (i-B)) else .any
  rw[lq f i];by_cases h:B<=i
  ·rw[t8 h,t8 h];by_cases e:d+B=i
   ·rw[t8 e,t8 (by omega)]
   ·rw[ul e,ul (by omega)]
  ·rw[ul h,ul h,ul (by omega)]
def lk{B:Nat}:∀(f:Fm) (i:Nat),aC (dnF B f) i=aC f (B+i)
 | [],i=>rfl
 | (d,v)::f,i=>by
  show aC (if B<=d then (d-B,v)::dnF B f else dnF B f) i=if d=B+i then v else aC f (B+i)
  by_cases h:B<=d
  ·rw[t8 h];show(if d-B=i then v else aC (dnF B f) i)=_;rw[lk f i];by_cases e:d=B+i
   ·rw[t8 e,t8 (by omega)]
   ·rw[ul e,ul (by omega)]
  ·rw[ul h,lk f i,ul (by omega)]
def sz{B:Nat}{f g:Fm}(hl:nR B f=true){i:Nat}(hi:B<=i):aC (f++g) i=aC g i:=
 lj f g i λv hm=>by
  unfold nR at hl;rw[all_eq_true] at hl;have:=df (hl _ hm);simp only at this;omega
def sy{f g:Fm}{i:Nat}(hg:aC g i=.any):aC (f++g) i=aC f i:=by
 induction f with
 | nil=>exact hg
 | cons p f ih=>
  obtain⟨d,v⟩:=p
  show(if d=i then v else aC (f++g) i)=if d=i then v else aC f i
  rw[ih]
def sQ:List Tmp->List SV->Fm->Fm
 | k::ks,v::vs,f=>sQ ks vs ((k,v)::f)
 | _,_,f=>f
def Ac{n:Nat}:∀{ks:List Tmp} {vs:List SV} {f:Fm},ks.all (λk=>blt k n)=true->∀{i:Nat},n<=i->aC (sQ ks vs f) i=aC f i
 | [],_,_,_,_,_=>by rw[sQ];intros;contradiction
 | k::ks,[],_,_,_,_=>by rw[sQ];intros;contradiction
 | k::ks,v::vs,f,h,i,hi=>by
  rw[dt,aj] at h;have:=df h.1;rw[sQ,Ac h.2 hi];show(if k=i then v else aC f i)=_;rw[ul (λe:k=i=>t7 (e▸this:i<n) (Nat.not_lt.2 hi))]
def lV{n:Nat}:∀{ks:List Tmp} {vs:List SV} {aS:List AV} {f:Fm} {t:Tr AV},ks.length=vs.length->bK θ ρ vs aS->ks.all (λk=>blt k n)=true->(∀i,i<n->VS θ ρ (aC f i) (A5 t i))->
 ∃t1,eH (ks.zip aS) n t=some t1/\∀i,i<n->VS θ ρ (aC (sQ ks vs f) i) (A5 t1 i)
 | [],[],aS,f,t,_,hv,_,hf=>by
  rw[aI] at hv;subst hv;exact⟨t,rfl,hf⟩
 | k::ks,v::vs,aS,f,t,hl,hv,hk,hf=>by
  rw[az] at hv;obtain⟨a,r,rfl,h1,h2⟩:=hv;rw[dt,aj] at hk
  have ih:=lV (f:=(k,v)::f) (t:=t.put k (some a)) (by simpa using hl) h2 hk.2 (by
   intro i hi;show VS θ ρ (if k=i then v else aC f i) (A5 _ i);unfold A5;rw[bU];by_cases e:i=k
   ·subst e;rw[t8 rfl,t8 rfl];exact h1
   ·rw[ul (λh=>e h.symm),ul e];exact hf i hi)
  obtain⟨t1,g1,g2⟩:=ih;refine⟨t1,?_,g2⟩;rw[List.zip_cons_cons,eH,hk.1,ab];exact g1
def RS.oy{o:Nat}{c:dw}{ls:LoopState}{p:Option Code}{f:Fm}(hR:RS θ ρ0 ρ h0 h S)(hS:S[o]?=some (.loop c ls p f)):
 h.iZ c.id=some (ls,p,c.t,c.n,c.ps,c.a,c.b,c.d)/\(∀i,i<c.n->VS θ ρ (aC f i) (A5 c.t i))/\∀ls2 p2,RS θ ρ0 ρ h0 (h.set c.id (.loop ls2 p2 c.t c.n c.ps c.a c.b c.d)) (S.set o (.loop c ls2 p2 f)):=by
 obtain⟨hL,hid,h1,h2⟩:=hR.obj o _ hS (λh=>by cases h);refine⟨by unfold H.iZ;rw[<-hid,h1],h2,λls2 p2=>?_⟩
 have hidr:¬h0.pr c.id:=by
  rw[<-hid]
  rcases hL.e with e | e<;>rw[e]
  ·exact hL.x.1
  ·exact hL.y.1
 have hidn:c.id<h.next:=by
  rw[<-hid]
  rcases hL.e with e | e<;>rw[e]
  ·exact hL.x.2
  ·exact hL.y.2
 have hg:∀v x,VS θ ρ v x->VS (dH θ o (θ o)) ρ v x:=λv x hv=>hv.ids λp=>by
  by_cases hp:p=o
  ·subst hp;rw[bp]
  ·rw[aW _ _ hp]
 have heq:dH θ o (θ o)=θ:=by
  funext p;by_cases hp:p=o
  ·subst hp;rw[bp]
  ·rw[aW _ _ hp]
 have get:∀j,j≠c.id->(h.set c.id (.loop ls2 p2 c.t c.n c.ps c.a c.b c.d)).aD.get j=h.aD.get j:=λj hj=>aJ _ _ hj
 have:=hR.qg (h':=h.set c.id (.loop ls2 p2 c.t c.n c.ps c.a c.b c.d)) (S':=S.set o (.loop c ls2 p2 f)) (o:=o) (so':=.loop c ls2 p2 f) (L':=θ o) (g:=λv=>v) (bi _) (λj hj=>get j (λe=>hidr (e▸hj))) (λ_ _=>rfl)
  (gV hR.lw (hR.ok.lo _ hidr)) (b0 (cj _ _).1 hR.ln) hL hg
  (λp so hp h3 h4=>by
   have sp:=hR.sep p o so _ hp h3 h4 hS (λh=>by cases h);obtain⟨k,_⟩:=hR.obj p so h3 h4;refine⟨get _ ?_,rfl,sp⟩;rw[<-hid]
   rcases k.e with e1 | e1<;>rcases hL.e with e2 | e2<;>rw[e1,e2]
   ·exact sp.xx
   ·exact sp.xy
   ·exact sp.yx
   ·exact sp.yy)
  (λid ob hi=>by
   obtain⟨r1,r2,r3⟩:=hR.row id ob hi;have:=r3 o _ hS (λh=>by cases h);refine⟨get _ ?_,this⟩;rw[<-hid]
   rcases hL.e with e | e<;>rw[e]
   ·exact this.1
   ·exact this.2)
  (by
   rw[heq];refine⟨hid,?_,h2⟩;rw[hid]
   exact bC _ _ _)
  (λp hp=>by
   rw[be (λh=>hp h.symm)]
   cases S[p]? with
   | none=>rfl
   | some s=>rw[bk];exact congrArg some (lF s).symm)
  (by rw[ba (aE hS)])
 rw[heq] at this;exact this
end
section
variable {θ θ':Nat->Loc} {ρ ρ0 ρ':ff} {P:Program} {h0:En} {h h1:H} {S S' S0:List SO}
abbrev laid:Nat:=20000000
theorem aB.y{ro:Option Nat}{all:List Oper}{o:Oper}{l:List Oper}{K:cM->Prop}{f f1:Fm}{n d oo:Nat}{ds:List eE}{cl:Call}{x:Operand}{vs:List SV}{c:dw}{pend:Option Code}(hst:cN all n [o]=true)(hop:o.op=.call cl)(hdst:o.dst=some d)(hw:bB all f o.guard=some true)(hdy:dg (.call cl)=true)
 (hcal:cl.callee=.value x) (hx:cT f x=some (.a (.fn (.yield c.id) [] []))) (hargs:gF f cl.args.toList=some vs) (hS:S[oo]?=some (.loop c .ready pend f1)) (hps:c.ps.toList.length=vs.length) (hlow:nR c.n f1=true) (hn1:c.n<=1000000) (hpar:c.ps.toList.all (λk=>blt k c.n)=true)
 (hbody:∀ro',ak P ro' c.a ⟨sQ c.ps.toList vs (f1++upF laid f),c.n,S,[]⟩ λex st=>ex=.normal/\∃oo2 pend2 f2,st.S[oo2]?=some (.loop c .ready pend2 f2)/\
  ak P ro' c.b ⟨st.f,c.n,st.S.set oo2 (.loop c .busy pend2 f2),st.ds⟩ λex st=>st.ds=[]/\∃oo3 ls p3 f3,st.S[oo3]?=some (.loop c ls p3 f3)/\
   aB P ro all l ⟨(d,.a (.bool (endN ex)))::dnF laid st.f,n,st.S.set oo3 (.loop c (endS ex) (endC ex) f3),ds⟩ K):aB P ro all (o::l) ⟨f,n,S,ds⟩ K:=by
 rintro ρ0 h0 ⟨af,n',h,ds'⟩ ⟨rfl,rfl,θ,ρ,hR,hF⟩
 have hd:blt d n'=true:=by
  have:=(cU hst).1;rw[hdst] at this;exact this
 obtain⟨a,ha,ka⟩:=aQ hF hx;rw[VS] at ka;subst ka;obtain⟨aS,hs,ks⟩:=fH hF hargs
 have hcall:iT P (cg af n') cl=some (.yield c.id,aS,[]):=by
  unfold iT;rw[hcal];simp only;rw[show ev (cg af n') x=_ from ha];simp only;rw[show nO (cg af n') cl.args.toList=_ from hs];rfl
 obtain⟨hlo,hfr,_⟩:=hR.oy hS
 obtain⟨t1,hp1,hp2⟩:=lV (n:=c.n) (f:=f1++upF laid f) hps ks hpar (λi hi=>by
  rw[sy (by rw[lq,ul (by unfold laid;omega)])];exact hfr i hi)
 obtain⟨w',hw'⟩:∃w':Nat->AV,w'=λi=>if laid<=i then (if i-laid<n' then af (i-laid) else od h0.w ds' (i-laid)) else e7:=⟨_,rfl⟩
 have hst1:eN ρ0 { h0 with w:=w' } ⟨sQ c.ps.toList vs (f1++upF laid f),c.n,S,[]⟩ ⟨A5 t1,c.n,h,[]⟩:=by
  refine⟨rfl,rfl,θ,ρ,hR.w _,λi=>?_,λi hi=>?_⟩
  ·simp only;by_cases hi:i<c.n
   ·rw[t8 hi];exact hp2 i hi
   ·have hge:c.n<=i:=a6 hi;rw[ul hi,Ac hpar hge,sz hlow hge,lq];show VS θ ρ _ (w' i);by_cases hb:laid<=i
    ·rw[t8 hb,hw'];simp only;rw[t8 hb];exact hF.v (i-laid)
    ·rw[ul hb,VS];trivial
  ·show w' i=e7;rw[hw'];simp only;rw[ul (by unfold laid;omega)]
 have hlen:=ks.length;refine eJ.c hop hdst (bH hF (cI hst hw)) hdy hd hcall (f4 _) (Q:=λv h'=>∃(bb:Bool) (f':Fm) (S':List SO),v=.bool bb/\aB P ro all l ⟨(d,.a (.bool bb))::f',n',S',ds'⟩ K/\∃θ' ρ',RS θ' ρ0 ρ' h0 h' S'/\FR θ' ρ' (aC f') af n' (od h0.w ds')) ?_ ?_
 ·refine cx.yield hlo (by rw[hps,hlen]) hp1 (f1:=A5 t1) (λ_ _=>rfl) ?_;refine(hbody (some c.id) ρ0 _ _ hst1).mono ?_;rintro ex ⟨af2,n2,h2,ds2⟩ ⟨st,⟨rfl,oo2,pend2,f2,hS2,hb⟩,hn2,e1,e2,θ2,ρ2,hR2,hF2⟩;simp only at e1 e2 hR2 hF2 hn2;obtain⟨hlo2,_,hset2⟩:=hR2.oy hS2;refine⟨rfl,pend2,c.t,c.n,c.ps,c.a,c.b,c.d,hlo2,?_⟩;have hn3:n2=c.n:=e1.trans hn2;subst hn3;have hb2:=hb ρ0 { h0 with w:=w' } ⟨af2,c.n,h2.set c.id (.loop .busy pend2 c.t c.n c.ps c.a c.b c.d),ds2⟩ ⟨rfl,e2,θ2,ρ2,hset2 _ _,by rw[<-e1] at hF2;exact hF2⟩;refine hb2.mono ?_;rintro ex3 ⟨af3,n3,h3,ds3⟩ ⟨st3,⟨hds3,oo3,ls,p3,f3,hS3,hK⟩,hn3,e3,e4,θ3,ρ3,hR3,hF3⟩;simp only at e3 e4 hR3 hF3 hn3;rw[hds3] at e4;subst e4;obtain⟨hlo3,_,hset3⟩:=hR3.oy hS3;refine⟨rfl,ls,p3,c.t,c.n,c.ps,c.a,c.b,c.d,hlo3,endN ex3,dnF laid st3.f,_,rfl,hK,θ3,ρ3,(hset3 _ _).w h0.w,λi=>?_,hF.u⟩;rw[lk];have:=hF3.v (laid+i);rw[ul (by rw[hn3];unfold laid;omega)] at this
  have e5:od w' [] (laid+i)=if i<n' then af i else od h0.w ds' i:=by
   show w' (laid+i)=_;rw[hw'];simp only;rw[t8 (by omega),ay]
  rw[e5] at this;exact this
 ·rintro v h' ⟨bb,f',S',rfl,hK,θ',ρ',hR',hF'⟩;exact hK ρ0 h0 _ ⟨rfl,rfl,θ',ρ',hR',hF'.put (df hd) (by rw[VS])⟩
def RS.B0{so:SO}{ob:AO}(hR:RS θ ρ0 ρ h0 h S)(hob:gO (dH θ S.length ⟨h.next,h.next,h.next,h.next⟩) ρ { h with aD:=h.aD.put h.next (some ob),next:=h.next+1 } ⟨h.next,h.next,h.next,h.next⟩ (killO S.length so)):
 RS (dH θ S.length ⟨h.next,h.next,h.next,h.next⟩) ρ0 ρ h0 { h with aD:=h.aD.put h.next (some ob),next:=h.next+1 } (dG S so):=by
 have hpr:∀j,h0.pr j->j<h.next:=λj hj=>bv (hR.ok.pr j hj) hR.nx;have hpf:∀j,h0.pf j->j<h.next:=λj hj=>bv (hR.ok.pf j hj) hR.nx;have hobj:∀j,j<h.next->(h.aD.put h.next (some ob)).get j=h.aD.get j:=λj hj=>aJ _ _ (by omega);refine hR.qg (g:=aH S.length) (so':=killO S.length so) (by show h.next<=h.next+1;omega) (λj hj=>hobj j (hpr j hj)) (λ_ _=>rfl) hR.lw (ej hR.ln) ⟨.inl rfl,⟨λhj=>d9 _ (hpr _ hj),ch _⟩,⟨λhj=>d9 _ (hpr _ hj),ch _⟩,⟨λhj=>d9 _ (hpf _ hj),ch _⟩⟩ (λv x hv=>ef (λp hp=>aW _ _ hp) hv) ?_ ?_ hob ?_ ?_
 ·intro p s hp hs hsg;obtain⟨⟨k1,k2,k3,k4⟩,_⟩:=hR.obj p s hs hsg;refine⟨hobj _ (by rcases k1 with e | e<;>omega),rfl,⟨?_,?_,?_,?_,?_⟩⟩<;>(simp only;omega)
 ·intro id ob' hi;have:=(hR.row id ob' hi).1;exact⟨hobj id this,by simp only;omega,by simp only;omega⟩
 ·intro p hp;unfold dG
  have hl:(bZ S.length S).length=S.length:=by unfold bZ;rw[bh]
  rw[d0];split
  ·exact jQ _ _ _
  ·rename_i hlt;rw[hl] at hlt ⊢;have:S[p]?=none:=bw (by omega);rw[this,bw (by simp;omega)];rfl
 ·unfold dG
  have hl:(bZ S.length S).length=S.length:=by unfold bZ;rw[bh]
  rw[b7 (by omega),hl,eB];rfl
def EI(P:Program)(g:FuncId)(vs:List SV)(S:List SO)(K:List SO->Prop):Prop:=∃(os:List Nat) (ws:List SV) (S0:List SO) (mv:List Nat) (Q:SV->List SO->Prop),SC P g ws S0 mv Q/\fV (eM os S.length) ws=vs/\os.length=S0.length/\os.Nodup/\
 (∀(i:Nat) so,S0[i]?=some so->∃o,os[i]?=some o/\S[o]?=some (iK (eM os S.length) so))/\∀r S',Q r S'->mC S'.length S'=true/\K (afterS S os mv S')
def BZ(S:List SO)(so:SO):(dG S so).length=S.length+1:=by unfold dG bZ;simp
def xD(o:Nat)(v:SV):aH o (aH o v)=aH o v:=by
 unfold aH;cases h:names o v
 ·simp[h]
 ·simp[names]
def ak.lM(hng:kV P){g:Operand}{ps:Array Tmp}{assign body:Code}{f f1:Fm}{n:Nat}{ds:List eE}{Q:Ex->cM->Prop}{fid:FuncId}{fn':Func}{first cap:List SV}(hg:cT f g=some (.fn fid first cap))(hfn:P.funcs[fid]?=some fn')(hb:fn'.body.isSome=true)
 (hf1:HasS (cm (S.length+1) (cm S.length f)) f1)
 (hk:∀(N:Nat) (c:dw),c.id=N+1->c.n=n->c.ps=ps->c.a=assign->c.b=body->EI P fid ((first++[SV.a (.fn (.yield (N+1)) [] [])]++cap).map λv=>aH (S.length+1) (aH S.length v)) (dG (dG S (.ik N)) (.loop c .ready none f1)) λS2=>∃oo ls p f2,S2[oo]?=some (.loop c ls p f2)/\ls≠.busy/\nR n f2=true/\
  match p with
  | none=>Q .normal ⟨f2,n,S2.set oo .gone,{ fn:=none,tT:=N,args:=[],cap:=[] }::ds⟩
  | some cd=>ak P none cd ⟨f2,n,S2.set oo .gone,{ fn:=none,tT:=N,args:=[],cap:=[] }::ds⟩ Q):ak P none (.rangeFunc g ps assign body) ⟨f,n,S,ds⟩ Q:=by
 rintro ρ0 h0 ⟨af,n',⟨O,F,N,lw⟩,ds'⟩ ⟨rfl,rfl,θ,ρ,hR,hF⟩;obtain⟨gv,hgv,kgv⟩:=aQ hF hg;rw[VS] at kgv;obtain⟨xs,ys,rfl,kx,ky⟩:=kgv;simp only at hR hF;obtain⟨c,hc⟩:∃c:dw,c=⟨N+1,cg af n',n',ps,assign,body,N⟩:=⟨_,rfl⟩;have hkc:=hk N c (by rw[hc]) (by rw[hc]) (by rw[hc]) (by rw[hc]) (by rw[hc]);obtain⟨os,ws,S0,mv,Qc,hsc,hws,hKl,hnd,hos,hpost⟩:=hkc;have hR1:=hR.B0 (so:=.ik N) (ob:=.ik false) ⟨rfl,bC _ _ _⟩;simp only at hR1;have hl1:(dG S (SO.ik N)).length=S.length+1:=BZ _ _
 have hR2:=hR1.B0 (so:=.loop c .ready none f1) (ob:=.loop .ready none (cg af n') n' ps assign body N) (by
  refine⟨by rw[hc],?_,?_⟩
  ·simp only;rw[bC,hc]
  ·intro i hi
   have hn:c.n=n':=by rw[hc]
   rw[hn] at hi
   have e1:A5 c.t i=af i:=by
    rw[hc];unfold A5;simp only;rw[gJ _ _ _ hi];rfl
   rw[e1,dU,hl1];have hv:=hF.v i;rw[t8 hi] at hv;have h2:VS (dH θ S.length ⟨N,N,N,N⟩) ρ (aH S.length (aC f i)) (af i):=ef (λp hp=>aW _ _ hp) hv;have h3:VS (dH (dH θ S.length ⟨N,N,N,N⟩) (S.length+1) ⟨N+1,N+1,N+1,N+1⟩) ρ (aH (S.length+1) (aH S.length (aC f i))) (af i):=ef (λp hp=>aW _ _ hp) h2
   rcases hf1.get i with e | e
   ·rw[e,dU,dU];rw[xD];exact h3
   ·rw[e]
    have:aH (S.length+1) SV.any=.any:=by unfold aH;simp[names]
    rw[this,VS];trivial)
 rw[hl1] at hR2;obtain⟨SN,hSN⟩:∃SN,SN=dG (dG S (.ik N)) (.loop c .ready none f1):=⟨_,rfl⟩;rw[<-hSN] at hR2 hws hos hpost
 have hos2:∀o∈os,o<SN.length:=by
  intro o ho;obtain⟨i,hi1,hi2⟩:=cn ho
  have:i<S0.length:=by omega
  obtain⟨o',e1,e2⟩:=hos i _ (ac this);rw[ac hi1] at e1;cases e1;rw[<-hi2];exact aE e2
 have hr:∀(i:Nat) so,S0[i]?=some so->SN[eM os SN.length i]?=some (iK (eM os SN.length) so):=by
  intro i so e;obtain⟨o,e1,e2⟩:=hos i so e;rw[gC e1];exact e2
 have hargs:bK (dH (dH θ S.length ⟨N,N,N,N⟩) (S.length+1) ⟨N+1,N+1,N+1,N+1⟩) ρ ((first++[SV.a (.fn (.yield (N+1)) [] [])]++cap).map λv=>aH (S.length+1) (aH S.length v)) (xs++[.fn (.yield (N+1)) [] []]++ys):=by
  have h1:bK θ ρ (first++[SV.a (.fn (.yield (N+1)) [] [])]++cap) (xs++[.fn (.yield (N+1)) [] []]++ys):=(kx.app (by rw[az];exact⟨_,_,rfl,by rw[VS],by rw[aI]⟩)).app ky;exact h1.map λv x hv=>ef (λp hp=>aW _ _ hp) (ef (θ':=dH θ S.length ⟨N,N,N,N⟩) (λp hp=>aW _ _ hp) hv)
 rw[<-hws] at hargs;refine fE.lM hng hgv hfn hb (Q1:=λlp v h'=>∃r S' θ' ρ' h1,Qc r S'/\h'={ h1 with low:=dF lw h1.low }/\RS θ' ρ ρ' (BI (λp=>(dH (dH θ S.length ⟨N,N,N,N⟩) (S.length+1) ⟨N+1,N+1,N+1,N+1⟩) (eM os SN.length p)) h0 ⟨(O.put N (some (.ik false))).put (N+1) (some lp),F,N+2,lw⟩ S0) h1 S'/\VS θ' ρ' r v/\S0.length<=S'.length/\∀i,i<S0.length->i∉mv->(θ' i).id=((dH (dH θ S.length ⟨N,N,N,N⟩) (S.length+1) ⟨N+1,N+1,N+1,N+1⟩) (eM os SN.length i)).id) ?_ ?_
 ·rintro lp rfl;exact hsc _ _ ρ _ _ rfl (hR2.enter hr (λi j=>sT hnd hos2)) ((bK.rn _).1 hargs)
 ·rintro lp v h' rfl ⟨r,S',θ',ρ',h1,k1,rfl,k3,k4,k5,k6⟩;obtain⟨b2,hq⟩:=hpost r S' k1;obtain⟨j1,_,_⟩:=BU (low:=dF lw h1.low) hR2 hr hKl hnd hos2 k3 k5 k6 b2 rfl;obtain⟨oo,ls,p,f2,hS2,hls,hlow2,hQ⟩:=hq;obtain⟨hlo,hfr,hset⟩:=j1.oy hS2
  have hcid:c.id=N+1:=by rw[hc]
  rw[hcid] at hlo hset
  have hstn:∀p2,eN ρ0 h0 ⟨f2,n',(afterS SN os mv S').set oo .gone,{ fn:=none,tT:=N,args:=[],cap:=[] }::ds'⟩ ⟨af,n',H.set { h1 with low:=dF lw h1.low } (N+1) (.loop .exhausted p2 c.t c.n c.ps c.a c.b c.d),{ fn:=none,tT:=N,args:=[],cap:=[] }::ds'⟩:=by
   intro p2;refine⟨rfl,rfl,_,_,(hset .exhausted p2).sub ?_,λi=>?_,λi hi=>by rw[jj _ _ (by omega)];have:=hF.u i hi;rw[jj _ _ (by omega)] at this;exact this⟩
   ·intro o so e1 e2;by_cases e:o=oo
    ·subst e;rw[ba (aE hS2)] at e1;cases e1;exact t7 rfl e2
    ·rw[be (λh=>e h.symm)] at e1 ⊢;exact e1
   ·by_cases hi:i<n'
    ·rw[t8 hi]
     have hn:c.n=n':=by rw[hc]
     have:=hfr i (by rw[hn];exact hi)
     have e1:A5 c.t i=af i:=by
      rw[hc];unfold A5;simp only;rw[gJ _ _ _ hi];rfl
     rw[e1] at this;exact this
    ·rw[lE hlow2 (a6 hi),VS];trivial
  refine⟨ls,p,c.t,c.n,c.ps,c.a,c.b,c.d,hlo,hls,?_⟩
  cases p with
  | none=>exact⟨_,hQ,rfl,hstn none⟩
  | some cd=>exact hQ ρ0 h0 _ (hstn (some cd))
end
def tY(P:Program):List eE->H->(H->Prop)->Prop
 | [],h,K=>K h
 | d::ds,h,K=>match d.fn with
  | none=>h.aD.get d.tT=some (.ik false)/\tY P ds (h.set d.tT (.ik true)) K
  | some (.func g)=>∃fn c m,P.funcs[g]?=some fn/\fn.body=some c/\(d.args++d.cap).length+(fn.ntmps-(d.args++d.cap).length)=m/\
   fE P none c ⟨j8 (d.args++d.cap),m,h,[]⟩ (λe st=>fj e=true/\st.ds=[]/\(∃v,lO P (cg st.f st.n) st.h fn.results.toList=some v)/\tY P ds st.h K)
  | _=>False
def mN{P:Program}(hng:kV P){n:Nat}{fn:Func}{a:Act}{t:Tr AV}{N:Nat}{R:Ending->World->Prop}{σ0:Sg}{h0:H}{w0:World}{K:H->Prop}:∀(ds:List eE) (h:H),tY P ds h K->
 ∀(ds':List Deferred) (σ:Sg) (w:World),DB σ ds ds'->HR σ h w->TR σ t N a.tmps->Ext σ0 σ h0 h w0 w->
 (∀h' σ' w',K h'->HR σ' h' w'->TR σ' t N a.tmps->Ext σ0 σ' h0 h' w0 w'->∃v,(results fn a.tmps).run P w'=.ok v w'/\R (.returned v) w')->
 LeavesInM Fence.wide n P fn a.tmps R ds' .returning w
 | [],h,ho,ds',σ,w,hd,hr,ht,hE,hR=>by
  cases ds' with
  | cons d ds=>exact hd.elim
  | nil=>exact hR h σ w ho hr ht hE
 | d::ds,h,ho,ds',σ,w,hd,hr,ht,hE,hR=>by
  cases ds' with
  | nil=>exact hd.elim
  | cons d' ds'=>
   obtain⟨hd1,hd2⟩:=hd;rw[tY] at ho;unfold Ey at hd1
   cases hdf:d.fn with
   | none=>
    rw[hdf] at hd1 ho;simp only at hd1 ho;obtain⟨q,hq,rfl⟩:=hd1;obtain⟨hob,ho⟩:=ho;obtain⟨q',hq',hor⟩:=hr.obj _ _ hob;rw[hq] at hq';cases hq';have hor:w.heap[q.b]?=some (.deferred (some [])):=hor;obtain⟨s1,s2⟩:=hr.eX (o':=.ik true) (ob:=.deferred none) hob rfl rfl hq rfl;refine⟨by simp,.inl ⟨q.b,_,rfl,?_,mN hng ds _ ho ds' σ _ hd2 s1 ht (hE.trans s2) hR⟩⟩;simp only[Instr.takeDeferred,Sem.run_bind,bj hor (by simp),Result.andThen_ok,cE hor (by simp),Sem.run_pure]
   | some f=>
    rw[hdf] at hd1 ho;simp only at hd1;obtain⟨g,cap',rfl,htar,hargs,hcap⟩:=hd1;simp only at ho;obtain⟨fn',c,m,hfn,hbody,hm,hwp⟩:=ho
    have hall':VL σ (d.args++d.cap) (d'.args++cap').toList:=by
     simp only[bt];exact hargs.append hcap
    have hcall:=c9 hng hfn (by rw[hbody];rfl) (d'.args++cap') w;refine⟨by simp,.inr ⟨λh=>by simp[Fence.wide] at h,.func g,cap',g,d'.args++cap',htar,?_,λ_ _=>trivial,?_⟩⟩
    ·rw[htar];simpa only[invoke] using hcall
    ·subst hm;have hw:=hwp Fence.wide (n-1) σ { tmps:=(d'.args++cap')++c4 (fn'.ntmps-(d'.args++cap').size) undef,defers:=[] } w ⟨yX hall' _,hr,trivial⟩ rfl;have hD:=callsDIn_of_wp (F:=Fence.wide) (n:=n-1) (u:=.returning) (R:=λe w'=>∃v h' σ',e=.returned v/\tY P ds h' K/\HR σ' h' w'/\Ext σ σ' h h' w w') hfn hbody trivial (wpIn_mono hw ?_)
     ·refine⟨hD.1,λcc cs hm hroom=>?_⟩;obtain⟨e,u',w',fr,⟨rfl,v,h',σ',rfl,q1,hh',hext⟩,hrest⟩:=hD.2 cc cs hm hroom;refine⟨.returned v,_,w',fr,?_,hrest⟩;have hset:settle .returning=.returning:=rfl;simp only[hset];exact mN hng ds h' q1 ds' σ' w' (hd2.mono hext.le) hh' (ht.mono hext.le) (hE.trans hext) hR
     ·rintro e a' w' ⟨ex,st',⟨hend,hds,⟨rr,hres⟩,h1⟩,hex,σ',hs',hE',hn'⟩
      have hde:a'.defers=[]:=by
       have:=hs'.ds;rw[hds] at this
       cases had:a'.defers with
       | nil=>rfl
       | cons x y=>rw[had] at this;exact this.elim
      obtain⟨v,k1,k2⟩:=lP hs'.sr.t hs'.h hres
      have:bodyPost P fn' (λe w'=>∃v h' σ',e=.returned v/\tY P ds h' K/\HR σ' h' w'/\Ext σ σ' h h' w w') e a' w':=by
       rcases lf hend with rfl | rfl
       ·have:e=.normal:=hex;subst this;exact⟨hde,v,k1,v,st'.h,σ',rfl,h1,hs'.h,hE'⟩
       ·have:e=.ret:=hex;subst this;exact⟨hde,v,k1,v,st'.h,σ',rfl,h1,hs'.h,hE'⟩
      exact this
def cx.kh{P:Program}(hng:kV P){g:FuncId}{fn:Func}{c:Code}{args:List AV}{h:H}{Q:AV->H->Prop}(hf:P.funcs[g]?=some fn)(hb:fn.body=some c){n:Nat}(hn:args.length+(fn.ntmps-args.length)=n)
 (hw:fE P none c ⟨j8 args,n,{ h with low:=h.next },[]⟩ λe st=>fj e=true/\tY P st.ds st.h λh''=>∃v,lO P (cg st.f st.n) h'' fn.results.toList=some v/\Q v { h'' with low:=dF h.low h''.low }):cx P (.func g) args h Q:=by
 intro σ w args' hv hr;rw[c9 hng hf (by rw[hb];rfl)];have hr1:HR σ { h with low:=h.next } w:=⟨hr.obj,hr.fresh,hr.sep,hr.aX,bi _⟩;subst hn;have hw:=hw Fence.wide 0 σ { tmps:=args'++c4 (fn.ntmps-args'.size) undef,defers:=[] } w ⟨yX hv _,hr1,trivial⟩ rfl;refine callsIn_wide.1 (callsIn_of_wp_marks (F:=Fence.wide) (n:=0) hf hb trivial (wpIn_mono hw ?_));rintro e a' w' ⟨exx,st',⟨hend,hl⟩,hexx,σ',hs',hE',hn'⟩
 have key:LeavesInM Fence.wide 0 P fn a'.tmps (λe w''=>∃v,e=.returned v/\tW σ h w Q v w'') a'.defers .returning w':=by
  refine mN hng st'.ds st'.h hl a'.defers σ' w' hs'.ds hs'.h hs'.sr.t hE' ?_;rintro h'' σ'' w'' ⟨v,hres,hQ⟩ hh'' ht'' hE'';obtain⟨x,k1,k2⟩:=lP ht'' hh'' hres;have:=lower hr hh'' hE'';exact⟨x,k1,x,rfl,v,_,hQ,σ'',k2,this.1,this.2⟩
 rcases lf hend with rfl | rfl
 ·have:e=.normal:=hexx;subst this;exact key
 ·have:e=.ret:=hexx;subst this;exact key
section
variable {θ θ':Nat->Loc} {ρ ρ0 ρ':ff} {P:Program} {h0:En} {h h1:H} {S S' S0:List SO}
def jP{l:List (AV×AV×Nat)}{bs:List Nat}(hbs:l.map (·.2.2)=bs){j:Nat}{e:AV×AV×Nat}(he:l[j]?=some e):bs.getD j 0=e.2.2:=by
 rw[<-hbs,List.getD_eq_getElem?_getD,a8,he];rfl
def born_inj{l:List (AV×AV×Nat)}{c:Nat}(hb:ia l c){i j:Nat}{e e':AV×AV×Nat}(hi:l[i]?=some e)(hj:l[j]?=some e')(h:e.2.2=e'.2.2):i=j:=by
 have h1:(l.map (·.2.2))[i]?=some e.2.2:=by rw[a8,hi];rfl
 have h2:(l.map (·.2.2))[j]?=some e.2.2:=by rw[a8,hj,h];rfl
 have hl:=aE h1;exact(List.getElem?_inj hl hb.1).1 (h1.trans h2.symm)
def pJ(b:Nat):∀(l:List Nat),seenIn b l=true↔b∈l
 | []=>by simp[seenIn]
 | x::l=>by
  simp only[seenIn,fy,pJ b l,mem_cons];constructor
  ·rintro(h | h)
   ·exact .inl (bD h).symm
   ·exact .inr h
  ·rintro(h | h)
   ·exact .inl (Bn h.symm)
   ·exact .inr h
def rK{id mid c:Nat}{l:List (AV×AV×Nat)}{bs pos:List Nat}(hg:h.aD.get id=some (.eg (some mid) c (pos.map λj=>bs.getD j 0) c))(hm:h.mapOf mid=some (l,c))(hb:ia l c)(hbs:l.map (·.2.2)=bs)(hp:∀j∈pos,j<l.length):
 ∃outs,pF h (.ptr (some (id,0))) false=some outs/\∀x∈outs,(x=(.aO [.bool false],h)/\∀j,j<l.length->j∈pos)\/
  ∃j k v,j<l.length/\j∉pos/\x=(.aO [.bool true,k,v],h.set id (.eg (some mid) c ((pos++[j]).map λj=>bs.getD j 0) c)):=by
 have hc:(!(pos.map λj=>bs.getD j 0).isEmpty&&(!l.isEmpty&&l.all (λe=>ble c e.2.2)))=false:=by
  cases hl:l with
  | nil=>simp
  | cons a r=>
   have hall:(a::r).all (λe=>ble c e.2.2)=false:=by
    rw[List.all_eq_false];refine⟨a,al ..,?_⟩;have:=hb.2 a (by rw[hl];exact al ..);intro hh;have:=eu hh;omega
   rw[hall];simp
 have hnx:pF h (.ptr (some (id,0))) false=some (jq h id mid c (pos.map λj=>bs.getD j 0) c ((l.filter λe=>!(seenIn e.2.2 (pos.map λj=>bs.getD j 0))).filter λe=>blt e.2.2 c) ((l.filter λe=>!(seenIn e.2.2 (pos.map λj=>bs.getD j 0))).filter λe=>!(blt e.2.2 c))):=by
  simp only[pF,hg,hm,bc];rw[hc,ah]
 refine⟨_,hnx,?_⟩;intro x hx;unfold jq at hx
 have hun:∀j e,l[j]?=some e->seenIn e.2.2 (pos.map λj=>bs.getD j 0)=false->j∉pos:=by
  intro j e he hs hj;have:seenIn e.2.2 (pos.map λj=>bs.getD j 0)=true:=(pJ _ _).2 (mem_map.2 ⟨j,hj,jP hbs he⟩);rw[this] at hs;cases hs
 rcases mem_append.1 hx with hx | hx
 ·left;cases he:((l.filter λe=>!(seenIn e.2.2 (pos.map λj=>bs.getD j 0))).filter λe=>blt e.2.2 c).isEmpty
  ·rw[he,ah] at hx;cases hx
  ·rw[he,ab] at hx;refine⟨List.mem_singleton.1 hx,λj hj=>?_⟩;rw[List.isEmpty_iff] at he;have hlj:l[j]?=some l[j]:=ac hj;apply Classical.byContradiction;intro hn
   have hmem:l[j]∈(l.filter λe=>!(seenIn e.2.2 (pos.map λj=>bs.getD j 0))).filter λe=>blt e.2.2 c:=by
    refine mem_filter.2 ⟨mem_filter.2 ⟨ce hj,?_⟩,Nat.ble_eq_true_of_le (hb.2 _ (ce hj))⟩;cases hs:seenIn l[j].2.2 (pos.map λj=>bs.getD j 0)
    ·rfl
    ·exfalso;obtain⟨j',hj',e⟩:=mem_map.1 ((pJ _ _).1 hs);obtain⟨e',hlj'⟩:∃e',l[j']?=some e':=⟨_,ac (hp j' hj')⟩;rw[jP hbs hlj'] at e;exact hn (born_inj hb hlj hlj' e.symm▸hj')
   rw[he] at hmem;cases hmem
 ·right;obtain⟨e,he,rfl⟩:=mem_map.1 hx
  have he':e∈l/\seenIn e.2.2 (pos.map λj=>bs.getD j 0)=false:=by
   rcases mem_append.1 he with he | he <;>
   ·have:=mem_filter.1 (mem_filter.1 he).1;exact⟨this.1,by simpa using this.2⟩
  obtain⟨j,hj⟩:=List.mem_iff_getElem?.1 he'.1;refine⟨j,e.1,e.2.1,aE hj,hun j e hj he'.2,?_⟩;rw[f6,cv,map_nil,jP hbs hj]
def qW:∀{l:List (AV×AV×Nat)} {j k:Nat} {e:AV×AV×Nat},(l.map (·.2.2)).Nodup->l[j]?=some e->fi e.2.2 l k=some (k+j)
 | [],j,k,e,_,he=>by simp at he
 | a::l,0,k,e,hn,he=>by
  simp only[a7,Option.some.injEq] at he;subst he;rw[fi,f8];rfl
 | a::l,j+1,k,e,hn,he=>by
  simp only[ax] at he;rw[cv,d4] at hn;rw[fi]
  have hne:beq a.2.2 e.2.2=false:=by
   cases hb:beq a.2.2 e.2.2
   ·rfl
   ·exact t7 (bD hb▸d5 (f:=λx:AV×AV×Nat=>x.2.2) (d3 he)) hn.1
  rw[hne,ah,qW hn.2 he]
  congr 1;omega
def oV{id mid c j:Nat}{l:List (AV×AV×Nat)}{bs pos:List Nat}{e:AV×AV×Nat}(hg:h.aD.get id=some (.eg (some mid) c ((pos++[j]).map λj=>bs.getD j 0) c))(hm:h.mapOf mid=some (l,c))(hb:ia l c)(hbs:l.map (·.2.2)=bs)(he:l[j]?=some e):
 mF h (.ptr (some (id,0)))=some (.aO [e.1,e.2.1]):=by
 have hlast:((pos++[j]).map λj=>bs.getD j 0).getLast?=some e.2.2:=by
  rw[f6,cv,map_nil,List.getLast?_append,jP hbs he];rfl
 simp only[mF,hg,hlast,hm,bc,f8,ab];rw[qW hb.1 he,bc,b9,he];rfl
def RS.put{o:Nat}{so so':SO}{ob':AO}(hR:RS θ ρ0 ρ h0 h S)(hS:S[o]?=some so)(hgn:so≠.gone)(hnew:gO θ ρ (h.set (θ o).id ob') (θ o) so'):RS θ ρ0 ρ h0 (h.set (θ o).id ob') (S.set o so'):=by
 obtain⟨hL,_⟩:=hR.obj o _ hS hgn
 have hidr:¬h0.pr (θ o).id:=by
  rcases hL.e with e | e<;>rw[e]
  ·exact hL.x.1
  ·exact hL.y.1
 have hg:∀v x,VS θ ρ v x->VS (dH θ o (θ o)) ρ v x:=λv x hv=>hv.ids λp=>by
  by_cases hp:p=o
  ·subst hp;rw[bp]
  ·rw[aW _ _ hp]
 have heq:dH θ o (θ o)=θ:=by
  funext p;by_cases hp:p=o
  ·subst hp;rw[bp]
  ·rw[aW _ _ hp]
 have get:∀j,j≠(θ o).id->(h.set (θ o).id ob').aD.get j=h.aD.get j:=λj hj=>aJ _ _ hj
 have:=hR.qg (h':=h.set (θ o).id ob') (S':=S.set o so') (o:=o) (so':=so') (L':=θ o) (g:=λv=>v) (bi _) (λj hj=>get j (λe=>hidr (e▸hj))) (λ_ _=>rfl)
  (gV hR.lw (hR.ok.lo _ hidr)) (b0 (cj _ _).1 hR.ln) hL hg
  (λp so1 hp h3 h4=>by
   have sp:=hR.sep p o so1 _ hp h3 h4 hS hgn;obtain⟨k,_⟩:=hR.obj p so1 h3 h4;refine⟨get _ ?_,rfl,sp⟩
   rcases k.e with e1 | e1<;>rcases hL.e with e2 | e2<;>rw[e1,e2]
   ·exact sp.xx
   ·exact sp.xy
   ·exact sp.yx
   ·exact sp.yy)
  (λid ob hi=>by
   obtain⟨r1,r2,r3⟩:=hR.row id ob hi;have:=r3 o _ hS hgn;refine⟨get _ ?_,this⟩
   rcases hL.e with e | e<;>rw[e]
   ·exact this.1
   ·exact this.2)
  (by rw[heq];exact hnew)
  (λp hp=>by
   rw[be (λh=>hp h.symm)]
   cases S[p]? with
   | none=>rfl
   | some s=>rw[bk];exact congrArg some (lF s).symm)
  (by rw[ba (aE hS)])
 rw[heq] at this;exact this
def RS.FK{o:Nat}{so so':SO}(hR:RS θ ρ0 ρ h0 h S)(hS:S[o]?=some so)(hgn:so≠.gone)(hnew:gO θ ρ h (θ o) so->gO θ ρ h (θ o) so'):RS θ ρ0 ρ h0 h (S.set o so'):=by
 have own:∀p s,(S.set o so')[p]?=some s->(p=o/\s=so')\/(p≠o/\S[p]?=some s):=by
  intro p s hp;by_cases e:p=o
  ·subst e;rw[ba (aE hS)] at hp;cases hp;exact .inl ⟨rfl,rfl⟩
  ·rw[be (λh=>e h.symm)] at hp;exact .inr ⟨e,hp⟩
 refine⟨hR.ok,hR.nx,hR.ob,hR.fm,hR.lw,hR.ln,?_,?_,?_,hR.gm⟩
 ·intro p s hp hg
  rcases own p s hp with⟨rfl,rfl⟩ | ⟨_,hp'⟩
  ·obtain⟨k1,k2⟩:=hR.obj p _ hS hgn;exact⟨k1,hnew k2⟩
  ·exact hR.obj p s hp' hg
 ·intro p q s s' hpq hp hg hq hg'
  have a:∃s0,S[p]?=some s0/\s0≠.gone:=by
   rcases own p s hp with⟨rfl,rfl⟩ | ⟨_,hp'⟩
   ·exact⟨_,hS,hgn⟩
   ·exact⟨_,hp',hg⟩
  have b:∃s0,S[q]?=some s0/\s0≠.gone:=by
   rcases own q s' hq with⟨rfl,rfl⟩ | ⟨_,hp'⟩
   ·exact⟨_,hS,hgn⟩
   ·exact⟨_,hp',hg'⟩
  obtain⟨s0,a1,a2⟩:=a;obtain⟨s1,b1,b2⟩:=b;exact hR.sep p q s0 s1 hpq a1 a2 b1 b2
 ·intro id ob hi;obtain⟨r1,r2,r3⟩:=hR.row id ob hi;refine⟨r1,r2,λp s hp hg=>?_⟩
  rcases own p s hp with⟨rfl,rfl⟩ | ⟨_,hp'⟩
  ·exact r3 p _ hS hgn
  ·exact r3 p s hp' hg
def sF{t:TypeId}(h:dX P t=.map):∃k e,P.underlying t=some (.map k e):=by
 unfold dX at h
 split at h<;>first | (cases h;done) | exact⟨_,_,by assumption⟩
variable {ro:Option Nat} {all:List Oper} {o:Oper} {l:List Oper} {f:Fm} {n d:Nat} {ds:List eE} {K:cM->Prop} {x:Operand} {ks:List AV} {vs:List SV} {bs pos:List Nat} {c i:Nat}
def aB.FI{t:TypeId}(hst:cN all n [o]=true)(hop:o.op=.range t x)(hdst:o.dst=some d)(hw:bB all f o.guard=some true)(hx:cT f x=some (.im ks vs))(ht:dX P t=.map)
 (hk:∀bs c,bs.length=ks.length->aB P ro all l ⟨(d,.ptr S.length 0)::cm S.length f,n,dG S (.kT ks vs bs c []),ds⟩ K):aB P ro all (o::l) ⟨f,n,S,ds⟩ K:=by
 rintro ρ0 h0 ⟨af,n',h,ds'⟩ ⟨rfl,rfl,θ,ρ,hR,hF⟩
 have hd:blt d n'=true:=by
  have:=(cU hst).1;rw[hdst] at this;exact this
 obtain⟨a,ha,ka⟩:=aQ hF hx;rw[VS,GS] at ka;obtain⟨mid,lm,c,rfl,h1,h2,h3⟩:=ka;obtain⟨kt,et,hu⟩:=sF ht
 have hm:h.mapOf mid=some (lm,c):=by unfold H.mapOf;rw[(hR.row mid _ h1).2.1]
 have hrun:cJ P (cg af n') h (.range t x)=some [(some (.ptr (some (h.next,0))),{ h with aD:=h.aD.put h.next (some (.eg (some mid) c [] c)),next:=h.next+1 })]:=by
  rw[vx,show ev (cg af n') x=_ from ha,bc];simp only[mU,hu,hm,bk,H.newObj]
 refine .v hop hdst (bH hF (cI hst hw)) rfl hd hrun ?_;have hR1:=hR.B0 (so:=.kT ks vs (lm.map (·.2.2)) c []) (ob:=.eg (some mid) c [] c) ⟨mid,lm,h1,⟨h2.1,h2.2.1,λp hp=>by cases hp;exact⟨rfl,rfl⟩⟩,h3,bC _ _ _⟩;refine hk (lm.map (·.2.2)) c (by rw[bh,<-h2.1,bh]) ρ0 h0 _ ⟨rfl,rfl,_,ρ,hR1,?_⟩;exact hF.kill (kill:=some S.length) (λv x hv=>ef (λp hp=>aW _ _ hp) hv) (df hd) (by rw[VS,bp])
def aB.FJ{t:TypeId}{oo:Nat}{b:Option (List Nat×Nat)}(hst:cN all n [o]=true)(hop:o.op=.range t x)(hdst:o.dst=some d)(hw:bB all f o.guard=some true)(hx:cT f x=some (.map oo))(hS:S[oo]?=some (.map ks vs b))(ht:dX P t=.map)
 (hk:∀bs c,bs.length=ks.length->aB P ro all l ⟨(d,.ptr S.length 0)::cm S.length f,n,dG (S.set oo (.map ks vs (some (bs,c)))) (.iter (.map oo) bs c []),ds⟩ K):aB P ro all (o::l) ⟨f,n,S,ds⟩ K:=by
 rintro ρ0 h0 ⟨af,n',h,ds'⟩ ⟨rfl,rfl,θ,ρ,hR,hF⟩
 have hd:blt d n'=true:=by
  have:=(cU hst).1;rw[hdst] at this;exact this
 obtain⟨a,ha,ka⟩:=aQ hF hx;rw[VS] at ka;subst ka;obtain⟨_,lm,c,h1,h2,h3⟩:=hR.obj oo _ hS (λh=>by cases h);obtain⟨kt,et,hu⟩:=sF ht
 have hm:h.mapOf (θ oo).id=some (lm,c):=by unfold H.mapOf;rw[h1]
 have hrun:cJ P (cg af n') h (.range t x)=some [(some (.ptr (some (h.next,0))),{ h with aD:=h.aD.put h.next (some (.eg (some (θ oo).id) c [] c)),next:=h.next+1 })]:=by
  rw[vx,show ev (cg af n') x=_ from ha,bc];simp only[mU,hu,hm,bk,H.newObj]
 refine .v hop hdst (bH hF (cI hst hw)) rfl hd hrun ?_;have hR0:RS θ ρ0 ρ h0 h (S.set oo (.map ks vs (some (lm.map (·.2.2),c)))):=hR.FK hS (λh=>by cases h) λ_=>⟨lm,c,h1,⟨h2.1,h2.2.1,λp hp=>by cases hp;exact⟨rfl,rfl⟩⟩,h3⟩;have hlen:(S.set oo (.map ks vs (some (lm.map (·.2.2),c)))).length=S.length:=d2;have hlt:=aE hS
 have hkm:aH S.length (.map oo)=.map oo:=by
  unfold aH;rw[names,un (by omega)];rfl
 have hR1:=hR0.B0 (so:=.iter (.map oo) (lm.map (·.2.2)) c []) (ob:=.eg (some (θ oo).id) c [] c) (by
  rw[hlen,killO,hkm]
  exact⟨(θ oo).id,by rw[VS,aW _ _ (by omega)],bC _ _ _⟩)
 rw[hlen] at hR1;refine hk (lm.map (·.2.2)) c (by rw[bh,<-h2.1,bh]) ρ0 h0 _ ⟨rfl,rfl,_,ρ,hR1,?_⟩;exact hF.kill (kill:=some S.length) (λv x hv=>ef (λp hp=>aW _ _ hp) hv) (df hd) (by rw[VS,bp])
def aB.FG(hst:cN all n [o]=true)(hop:o.op=.next x false)(hdst:o.dst=some d)(hw:bB all f o.guard=some true)(hx:cT f x=some (.ptr i 0))(hS:S[i]?=some (.kT ks vs bs c pos))(hp:∀j∈pos,j<ks.length)
 (hk0:(∀j,j<ks.length->j∈pos)->aB P ro all l ⟨(d,.aO [.a (.bool false)])::f,n,S,ds⟩ K)
 (hk1:∀j,j<ks.length->j∉pos->aB P ro all l ⟨(d,.aO [.a (.bool true),.any,.any])::f,n,S.set i (.kT ks vs bs c (pos++[j])),ds⟩ K):aB P ro all (o::l) ⟨f,n,S,ds⟩ K:=by
 rintro ρ0 h0 ⟨af,n',h,ds'⟩ ⟨rfl,rfl,θ,ρ,hR,hF⟩
 have hd:blt d n'=true:=by
  have:=(cU hst).1;rw[hdst] at this;exact this
 obtain⟨a,ha,ka⟩:=aQ hF hx;rw[VS] at ka;subst ka;obtain⟨_,mid,lm,h1,h2,h3,h4⟩:=hR.obj i _ hS (λh=>by cases h)
 have hm:h.mapOf mid=some (lm,c):=by unfold H.mapOf;rw[(hR.row mid _ h1).2.1]
 have hlen:lm.length=ks.length:=by rw[<-h2.1,bh]
 obtain⟨outs,ho,hall⟩:=rK h4 hm h2.2.1 (h2.2.2 _ rfl).1 (λj hj=>by rw[hlen];exact hp j hj);refine .n hop hdst (bH hF (cI hst hw)) rfl hd (by rw[Ab (show ev (cg af n') x=_ from ha),ho];rfl) ?_;intro y hy;obtain⟨z,hz,rfl⟩:=mem_map.1 hy
 rcases hall z hz with⟨rfl,hq⟩ | ⟨j,k,v,hj,hn,rfl⟩
 ·exact hk0 (λj hj=>hq j (by rw[hlen];exact hj)) ρ0 h0 _ ⟨rfl,rfl,θ,ρ,hR,hF.put (df hd) (by rw[VS];exact⟨_,rfl,by rw[az];exact⟨_,_,rfl,by rw[VS],by rw[aI]⟩⟩)⟩
 ·refine hk1 j (by rw[<-hlen];exact hj) hn ρ0 h0 _ ⟨rfl,rfl,θ,ρ,hR.put hS (λh=>by cases h) ⟨mid,lm,h1,h2,h3,bC _ _ _⟩,hF.put (df hd) ?_⟩;rw[VS];refine⟨_,rfl,?_⟩;rw[az];refine⟨_,_,rfl,by rw[VS],?_⟩;rw[az];refine⟨_,_,rfl,by rw[VS];trivial,?_⟩;rw[az];exact⟨_,_,rfl,by rw[VS];trivial,by rw[aI]⟩
def aB.FH{oo:Nat}(hst:cN all n [o]=true)(hop:o.op=.next x false)(hdst:o.dst=some d)(hw:bB all f o.guard=some true)(hx:cT f x=some (.ptr i 0))(hS:S[i]?=some (.iter (.map oo) bs c pos))(hM:S[oo]?=some (.map ks vs (some (bs,c))))(hp:∀j∈pos,j<ks.length)
 (hk0:(∀j,j<ks.length->j∈pos)->aB P ro all l ⟨(d,.aO [.a (.bool false)])::f,n,S,ds⟩ K)
 (hk1:∀j,j<ks.length->j∉pos->aB P ro all l ⟨(d,.aO [.a (.bool true),.any,.any])::f,n,S.set i (.iter (.map oo) bs c (pos++[j])),ds⟩ K):aB P ro all (o::l) ⟨f,n,S,ds⟩ K:=by
 rintro ρ0 h0 ⟨af,n',h,ds'⟩ ⟨rfl,rfl,θ,ρ,hR,hF⟩
 have hd:blt d n'=true:=by
  have:=(cU hst).1;rw[hdst] at this;exact this
 obtain⟨a,ha,ka⟩:=aQ hF hx;rw[VS] at ka;subst ka;obtain⟨_,mid,h3,h4⟩:=hR.obj i _ hS (λh=>by cases h);obtain⟨_,lm,c',q1,q2,q3⟩:=hR.obj oo _ hM (λh=>by cases h);rw[VS] at h3;simp only[AV.map.injEq,Option.some.injEq] at h3;subst h3;obtain⟨hb1,rfl⟩:=q2.2.2 _ rfl
 have hm:h.mapOf (θ oo).id=some (lm,c'):=by unfold H.mapOf;rw[q1]
 have hlen:lm.length=ks.length:=by rw[<-q2.1,bh]
 obtain⟨outs,ho,hall⟩:=rK h4 hm q2.2.1 hb1 (λj hj=>by rw[hlen];exact hp j hj);refine .n hop hdst (bH hF (cI hst hw)) rfl hd (by rw[Ab (show ev (cg af n') x=_ from ha),ho];rfl) ?_;intro y hy;obtain⟨z,hz,rfl⟩:=mem_map.1 hy
 rcases hall z hz with⟨rfl,hq⟩ | ⟨j,k,v,hj,hn,rfl⟩
 ·exact hk0 (λj hj=>hq j (by rw[hlen];exact hj)) ρ0 h0 _ ⟨rfl,rfl,θ,ρ,hR,hF.put (df hd) (by rw[VS];exact⟨_,rfl,by rw[az];exact⟨_,_,rfl,by rw[VS],by rw[aI]⟩⟩)⟩
 ·refine hk1 j (by rw[<-hlen];exact hj) hn ρ0 h0 _ ⟨rfl,rfl,θ,ρ,hR.put hS (λh=>by cases h) ⟨(θ oo).id,by rw[VS],bC _ _ _⟩,hF.put (df hd) ?_⟩;rw[VS];refine⟨_,rfl,?_⟩;rw[az];refine⟨_,_,rfl,by rw[VS],?_⟩;rw[az];refine⟨_,_,rfl,by rw[VS];trivial,?_⟩;rw[az];exact⟨_,_,rfl,by rw[VS];trivial,by rw[aI]⟩
def aB.FD{j:Nat}{k:AV}{v:SV}(hst:cN all n [o]=true)(hop:o.op=.entry x)(hdst:o.dst=some d)(hw:bB all f o.guard=some true)(hx:cT f x=some (.ptr i 0))(hS:S[i]?=some (.kT ks vs bs c (pos++[j])))(hkj:ks[j]?=some k)(hvj:vs[j]?=some v)
 (hk:aB P ro all l ⟨(d,.aO [qf k,v])::f,n,S,ds⟩ K):aB P ro all (o::l) ⟨f,n,S,ds⟩ K:=by
 rintro ρ0 h0 ⟨af,n',h,ds'⟩ ⟨rfl,rfl,θ,ρ,hR,hF⟩
 have hd:blt d n'=true:=by
  have:=(cU hst).1;rw[hdst] at this;exact this
 obtain⟨a,ha,ka⟩:=aQ hF hx;rw[VS] at ka;subst ka;obtain⟨_,mid,lm,h1,h2,h3,h4⟩:=hR.obj i _ hS (λh=>by cases h)
 have hm:h.mapOf mid=some (lm,c):=by unfold H.mapOf;rw[(hR.row mid _ h1).2.1]
 rw[<-h2.1,a8] at hkj;obtain⟨e,he,rfl⟩:=ai hkj;obtain⟨y,hy,ky⟩:=h3.get hvj;rw[a8,he] at hy;simp only[bk,Option.some.injEq] at hy;subst hy;refine .v hop hdst (bH hF (cI hst hw)) rfl hd (by rw[vw,show ev (cg af n') x=_ from ha,bc,oV h4 hm h2.2.1 (h2.2.2 _ rfl).1 he];rfl) ?_;refine hk ρ0 h0 _ ⟨rfl,rfl,θ,ρ,hR,hF.put (df hd) ?_⟩;rw[VS];refine⟨_,rfl,?_⟩;rw[az];refine⟨_,_,rfl,pN _,?_⟩;rw[az];exact⟨_,_,rfl,ky.vs,by rw[aI]⟩
def aB.FE{oo j:Nat}{k:AV}{v:SV}(hst:cN all n [o]=true)(hop:o.op=.entry x)(hdst:o.dst=some d)(hw:bB all f o.guard=some true)(hx:cT f x=some (.ptr i 0))(hS:S[i]?=some (.iter (.map oo) bs c (pos++[j])))(hM:S[oo]?=some (.map ks vs (some (bs,c))))(hkj:ks[j]?=some k)(hvj:vs[j]?=some v)
 (hk:aB P ro all l ⟨(d,.aO [qf k,v])::f,n,S,ds⟩ K):aB P ro all (o::l) ⟨f,n,S,ds⟩ K:=by
 rintro ρ0 h0 ⟨af,n',h,ds'⟩ ⟨rfl,rfl,θ,ρ,hR,hF⟩
 have hd:blt d n'=true:=by
  have:=(cU hst).1;rw[hdst] at this;exact this
 obtain⟨a,ha,ka⟩:=aQ hF hx;rw[VS] at ka;subst ka;obtain⟨_,mid,h3,h4⟩:=hR.obj i _ hS (λh=>by cases h);obtain⟨_,lm,c',q1,q2,q3⟩:=hR.obj oo _ hM (λh=>by cases h);rw[VS] at h3;simp only[AV.map.injEq,Option.some.injEq] at h3;subst h3;obtain⟨hb1,rfl⟩:=q2.2.2 _ rfl
 have hm:h.mapOf (θ oo).id=some (lm,c'):=by unfold H.mapOf;rw[q1]
 rw[<-q2.1,a8] at hkj;obtain⟨e,he,rfl⟩:=ai hkj;obtain⟨y,hy,ky⟩:=q3.get hvj;rw[a8,he] at hy;simp only[bk,Option.some.injEq] at hy;subst hy;refine .v hop hdst (bH hF (cI hst hw)) rfl hd (by rw[vw,show ev (cg af n') x=_ from ha,bc,oV h4 hm q2.2.1 hb1 he];rfl) ?_;refine hk ρ0 h0 _ ⟨rfl,rfl,θ,ρ,hR,hF.put (df hd) ?_⟩;rw[VS];refine⟨_,rfl,?_⟩;rw[az];refine⟨_,_,rfl,pN _,?_⟩;rw[az];exact⟨_,_,rfl,ky,by rw[aI]⟩
end
section
variable {θ θ':Nat->Loc} {ρ ρ0 ρ':ff} {P:Program} {h0:En} {h h1:H} {S S' S0:List SO}
def hosG(S:List SO)(r:Nat->Nat):List SO->List Nat->Prop
 | [],_=>True
 | so::l,o::os=>(so=.gone\/S[o]?=some (iK r so))/\hosG S r l os
 | _::_,[]=>False
def zr{r:Nat->Nat}:∀{S0:List SO} {os:List Nat},hosG S r S0 os->∀(i:Nat) so,S0[i]?=some so->so≠.gone->∃o,os[i]?=some o/\S[o]?=some (iK r so)
 | [],_,_,i,so,h,_=>by simp at h
 | s::l,o::os,hh,0,so,h,hg=>by
  simp only[a7,Option.some.injEq] at h;subst h;exact⟨o,rfl,hh.1.resolve_left hg⟩
 | s::l,o::os,hh,i+1,so,h,hg=>by
  simp only[ax] at h ⊢;exact zr hh.2 i so h hg
 | _::_,[],hh,_,_,_,_=>hh.elim
def Fg.rn(os:List Nat){f f':Fm}{n:Nat}{ds:List eE}(hnd:os.Nodup)(hK:os.length=S'.length)(hos:hosG S (eM os S.length) S' os)(hf:HasS f (Dn (eM os S.length) f')):Fg ⟨f,n,S,ds⟩ ⟨f',n,S',ds⟩:=by
 refine⟨rfl,?_⟩;rintro ρ0 h0 ⟨af,n',h,ds'⟩ ⟨rfl,rfl,θ,ρ,hR,hF⟩;obtain⟨r,hr⟩:∃r,r=eM os S.length:=⟨_,rfl⟩;rw[<-hr] at hos hf
 have hmem:∀(i:Nat) so,S'[i]?=some so->so≠.gone->S[r i]?=some (iK r so):=by
  intro i so hi hg;obtain⟨o,h2,h3⟩:=zr hos i so hi hg;rw[hr,gC h2,<-hr];exact h3
 have hinj:∀i j,i<S'.length->j<S'.length->r i=r j->i=j:=by
  intro i j hi hj e;rw[hr,gC (ac (show i<os.length by omega)),gC (ac (show j<os.length by omega))] at e;exact(fd hnd).1 e
 refine⟨rfl,rfl,λp=>θ (r p),ρ,⟨hR.ok,hR.nx,hR.ob,hR.fm,hR.lw,hR.ln,?_,?_,?_,hR.gm⟩,λi=>?_,hF.u⟩
 ·intro o so h1 h2;obtain⟨k1,k2⟩:=hR.obj _ _ (hmem o so h1 h2) (cS.2 h2);exact⟨k1,(gO.rn r).1 k2⟩
 ·intro o o' so so' hne h1 h2 h3 h4;exact hR.sep _ _ _ _ (λe=>hne (hinj o o' (aE h1) (aE h3) e)) (hmem o so h1 h2) (cS.2 h2) (hmem o' so' h3 h4) (cS.2 h4)
 ·intro id ob hi;obtain⟨r1,r2,r3⟩:=hR.row id ob hi;exact⟨r1,r2,λo so h1 h2=>r3 _ _ (hmem o so h1 h2) (cS.2 h2)⟩
 ·have hv:=hF.v i
  rcases hf.get i with e | e
  ·rw[ov] at e;rw[<-e] at hv;exact(VS.rn r).1 hv
  ·rw[ov] at e
   have:aC f' i=.any:=by
    cases hq:aC f' i<;>rw[hq] at e<;>first | rfl | (simp[de] at e;done)
   show VS _ _ (aC f' i) _;rw[this,VS];trivial
def Fg.wk{f f':Fm}{n:Nat}{ds:List eE}(hf:HasW [] f f'):Fg ⟨f,n,S,ds⟩ ⟨f',n,S,ds⟩:=by
 refine⟨rfl,?_⟩;rintro ρ0 h0 ⟨af,n',h,ds'⟩ ⟨rfl,rfl,θ,ρ,hR,hF⟩;refine⟨rfl,rfl,θ,ρ,hR,λi=>?_,hF.u⟩;have hv:=hF.v i
 rcases hf.get i with e | e
 ·show VS θ ρ (aC f' i) _;rw[e];exact hv
 ·have:=Wk.ok hR.sM e hv;rw[pG] at this;exact this.vs
def Fg.CG(o:Nat){f:Fm}{n:Nat}{ds:List eE}{ks:List AV}{vs:List SV}{b:Option (List Nat×Nat)}(hS:S[o]?=some (.map ks vs b)):Fg ⟨f,n,S,ds⟩ ⟨f,n,S.set o (.map ks vs none),ds⟩:=by
 refine⟨rfl,?_⟩;rintro ρ0 h0 ⟨af,n',h,ds'⟩ ⟨rfl,rfl,θ,ρ,hR,hF⟩;exact⟨rfl,rfl,θ,ρ,hR.FK hS (λh=>by cases h) λ⟨l,c,h1,h2,h3⟩=>⟨l,c,h1,⟨h2.1,h2.2.1,λp hp=>by cases hp⟩,h3⟩,hF⟩
section
variable {K U:Type} [DecidableEq K] {kv:K->AV} {uv:U->SV} {k:K} {l:List (K×U)} {t kt et:TypeId} {o:Nat} {x:SV}
def eO(k:K):List (K×U)->List (K×U)
 | []=>[]
 | e::l=>if k=e.1 then l else e::eO k l
def uG:∀{l:List (K×U)},bl k l=false->eO k l=l
 | [],_=>rfl
 | e::l,h=>by
  simp only[bl,List.any_cons,Bool.or_eq_false_iff,wd] at h;rw[eO,ul h.1,uG (by simpa [bl] using h.2)]
def uH:∀{l:List (K×U)} {j i:Nat},kJ k l j=some i->eO k l=l.eraseIdx (i-j)
 | [],_,_,h=>by cases h
 | e::l,j,i,h=>by
  have hle:=(fC h).1;unfold kJ at h;split at h
  ·rename_i hk;cases h;rw[eO,t8 hk,eB];rfl
  ·rename_i hk;have h2:=(fC h).1;rw[eO,ul hk,uH h,show i-j=(i-(j+1))+1 by omega,List.eraseIdx_cons_succ]
def fP:∀{l:List (K×U)},(l.map (·.1)).Nodup->eO k l=l.filter λe=>!decide (e.1=k)
 | [],_=>rfl
 | e::l,h=>by
  rw[cv,d4] at h;by_cases hk:k=e.1
  ·rw[eO,t8 hk,e6,ul (by simp[hk])];symm;rw[List.filter_eq_self];intro x hx;have:x.1≠k:=λhe=>h.1 (by rw[<-hk,<-he];exact d5 hx);simp[this]
  ·rw[eO,ul hk,e6,t8 (by simp;exact λh=>hk h.symm),fP h.2]
def EM(hm:bP P t=some (kt,et))(hk:oE P kt kv)(hS:S[o]?=some (aR kv uv l))(hf:bx x=some (kv k)):
 AH P S t (.map o) x=some (S.set o (aR kv uv (eO k l))):=by
 unfold AH;rw[hm,bc];simp only;rw[hf,bc,hk.ck,ab,hS];simp only[aR];rw[iy hk,bk]
 cases hp:kJ k l 0 with
 | none=>
  rw[uG (gn hp)];simp only
  congr 1
  have hlt:=aE hS;apply List.ext_getElem?;intro i;by_cases e:i=o
  ·subst e;rw[ba hlt,hS];rfl
  ·rw[be (λh=>e h.symm)]
 | some i=>
  have:=uH hp;rw[dD] at this;rw[this];simp only[Option.map_none]
  congr 2
  congr 1
  ·exact(cW _ _ _).symm
  ·exact(cW _ _ _).symm
end
end
def jc:∀(n:Nat) (l:List Nat),l.Nodup->(∀x∈l,x<n)->l.length<=n
 | 0,l,_,h=>by
  cases l with
  | nil=>exact bi _
  | cons a l=>exact t7 (h a al) (fx _)
 | n+1,l,hn,h=>by
  by_cases hm:n∈l
  ·have h1:=jc n (l.erase n) (hn.erase n) (λx hx=>by
    have h2:=(hn.mem_erase_iff.1 hx);have:=h x h2.2;have:=h2.1
    omega)
   rw[List.length_erase_of_mem hm] at h1;have:0<l.length:=List.length_pos_of_mem hm;omega
  ·exact ej (jc n l hn λx hx=>by
    have:=h x hx;have:x≠n:=λe=>hm (e▸hx)
    omega)
def lL{n j:Nat}{pos:List Nat}(hn:pos.Nodup)(hp:∀x∈pos,x<n)(hj:j<n)(hne:j∉pos):(pos++[j]).Nodup/\(∀x∈pos++[j],x<n)/\pos.length<n:=by
 have h1:(pos++[j]).Nodup:=by
  rw[List.nodup_append];exact⟨hn,by simp,λa ha b hb=>by rw[List.mem_singleton.1 hb];exact λe=>hne (e▸ha)⟩
 have h2:∀x∈pos++[j],x<n:=λx hx=>by
  rcases mem_append.1 hx with hx | hx
  ·exact hp x hx
  ·rw[List.mem_singleton.1 hx];exact hj
 refine⟨h1,h2,?_⟩;have:=jc n _ h1 h2;rw[c3] at this;exact this
section
variable {P:Program} {ro:Option Nat} {S S':List SO} {n:Nat} {ds:List eE}
def dq{f1 f2:Fm}:∀{l:List Operand},(∀x∈l,cT f1 x=cT f2 x)->gF f1 l=gF f2 l
 | [],_=>rfl
 | x::l,h=>by rw[gF,gF,h x al,dq λy hy=>h y (a9 _ hy)]
def jf{f1 f2:Fm}:∀{l:List (Nat×Operand)},(∀x∈l.map (·.2),cT f1 x=cT f2 x)->eY f1 l=eY f2 l
 | [],_=>rfl
 | (i,x)::l,h=>by rw[eY,eY,h x al,jf λy hy=>h y (a9 _ hy)]
def kM{f1 f2:Fm}{o:Option Operand}(h:∀x,o=some x->cT f1 x=cT f2 x):lX f1 o=lX f2 o:=by
 cases o with
 | none=>rfl
 | some x=>rw[lX,lX,h x rfl]
def lD:Op->Bool
 | .store _ _ _ | .mapUpdate _ _ _ _ | .insert _ _ _ _ | .call { callee:=.builtin .copy,.. }=>true
 | _=>false
def AZ{f1 f2:Fm}{op:Op}(hrd:(fp op||lD op)=true)(h:∀x∈op.operands.toList,cT f1 x=cT f2 x):sOp P f1 S op=sOp P f2 S op:=by
 cases op with
 | move x=>rw[sOp,sOp,h x (by simp[Op.operands])]
 | assign x=>rw[sOp,sOp,h x (by simp[Op.operands])]
 | pick c a b=>rw[sOp,sOp,h c (by simp[Op.operands]),h a (by simp[Op.operands]),h b (by simp[Op.operands])]
 | build tt ps=>rw[sOp,sOp,jf λx hx=>h x (by simpa [Op.operands] using hx)]
 | nilCheck x=>rw[sOp,sOp,h x (by simp[Op.operands])]
 | binOp op xt x y yt=>rw[sOp,sOp,h x (by simp[Op.operands]),h y (by simp[Op.operands])]
 | unOp op xt x=>rw[sOp,sOp,h x (by simp[Op.operands])]
 | convert s d x=>rw[sOp,sOp,h x (by simp[Op.operands])]
 | fieldAddr s x fl=>rw[sOp,sOp,h x (by simp[Op.operands])]
 | field s x fl=>rw[sOp,sOp,h x (by simp[Op.operands])]
 | indexAddr t x i=>rw[sOp,sOp,h x (by simp[Op.operands]),h i (by simp[Op.operands])]
 | index t x i=>rw[sOp,sOp,h x (by simp[Op.operands]),h i (by simp[Op.operands])]
 | extract x i=>rw[sOp,sOp,h x (by simp[Op.operands])]
 | load t x=>rw[sOp,sOp,h x (by simp[Op.operands])]
 | lookup t x k ok=>rw[sOp,sOp,h x (by simp[Op.operands]),h k (by simp[Op.operands])]
 | slice t x lo hi mx=>
  rw[sOp,sOp,h x (by simp[Op.operands]),kM (o:=lo) λy hy=>h y (by subst hy;simp[Op.operands]),kM (o:=hi) λy hy=>h y (by subst hy;simp[Op.operands]),kM (o:=mx) λy hy=>h y (by subst hy;simp[Op.operands])]
 | makeFunc g first cap=>
  cases g with
  | func g=>rw[sOp,sOp,dq λx hx=>h x (by simp only[Op.operands,bt,mem_append];exact .inl hx),dq (l:=cap.toList) λx hx=>h x (by simp only[Op.operands,bt,mem_append];exact .inr hx)]
  | method nm=>rw[sOp,sOp,dq λx hx=>h x (by simp only[Op.operands,bt,mem_append];exact .inl hx),dq (l:=cap.toList) λx hx=>h x (by simp only[Op.operands,bt,mem_append];exact .inr hx)]
  | _=>simp[fp,lD] at hrd
 | call c=>
  obtain⟨callee,aS,ats⟩:=c
  cases callee with
  | builtin b=>rw[sOp,sOp,dq λx hx=>h x (by simp only[Op.operands,Call.operands,bt,mem_append];exact .inr hx)]
  | _=>simp[fp,lD] at hrd
 | store t a x=>rw[sOp,sOp,h a (by simp[Op.operands]),h x (by simp[Op.operands])]
 | mapUpdate t m k x=>rw[sOp,sOp,h m (by simp[Op.operands]),h k (by simp[Op.operands]),h x (by simp[Op.operands])]
 | insert t m k x=>rw[sOp,sOp,h m (by simp[Op.operands]),h k (by simp[Op.operands]),h x (by simp[Op.operands])]
 | _=>simp[fp,lD] at hrd
def Fo(ol:List Oper):Nat->Nat->List Nat
 | 0,_=>[]
 | k+1,i=>match ol[i]? with
  | some o=>let l:=(o.after.toList.filter dep).map (·.on);l++l.flatMap (Fo ol k)
  | none=>[]
def gg(ol:List Oper)(L:Nat->Prop):Prop:=∀j o,ol[j]?=some o->L j->∀e∈o.after.toList,dep e=true->L e.on
def Bw{ol:List Oper}{L:Nat->Prop}(hc:gg ol L):∀{k i:Nat},(∀o,ol[i]?=some o->∀e∈o.after.toList,dep e=true->L e.on)->∀j∈Fo ol k i,L j
 | 0,i,_,j,h=>by cases h
 | k+1,i,hi,j,h=>by
  rw[Fo] at h
  cases ho:ol[i]? with
  | none=>rw[ho] at h;cases h
  | some o=>
   rw[ho] at h;simp only[mem_append,mem_map,List.mem_flatMap] at h
   rcases h with⟨e,he,rfl⟩ | ⟨x,⟨e,he,rfl⟩,hx⟩
   ·obtain⟨h1,h2⟩:=mem_filter.1 he;exact hi o ho e h1 h2
   ·obtain⟨h1,h2⟩:=mem_filter.1 he;have hl:=hi o ho e h1 h2;exact Bw hc (i:=e.on) (λo' ho'=>hc e.on o' ho' hl) j hx
def vo(L:Nat->Prop)(i:Nat)(v:SV):SV:=@ite _ (L i) (Classical.propDecidable _) v .any
def cB{L:Nat->Prop}{i:Nat}{v:SV}(h:L i):vo L i v=v:=t8 h
def ji{L:Nat->Prop}{i:Nat}{v:SV}(h:¬L i):vo L i v=.any:=ul h
def aB.num{all l:List Oper}{st:cM}{K:cM->Prop}(h:aB P ro all l st K):aB P ro all l st (λx=>K x/\x.n=st.n):=
 λρ0 h0 ast hs=>(h ρ0 h0 ast hs).mono λ_ ⟨x,k1,k2,k3⟩=>⟨x,⟨k1,k2⟩,k2,k3⟩
def ak.post{c:Code}{st:cM}{Q:Ex->cM->Prop}(h:ak P ro c st λe x=>∃x',Fg x x'/\Q e x'):ak P ro c st Q:=
 λρ0 h0 ast hs=>(h ρ0 h0 ast hs).mono λ_ _ ⟨_,⟨x',hf,hq⟩,hn,hst⟩=>⟨x',hq,hf.1.trans hn,hf.2 _ _ _ hst⟩
end
section
variable {P:Program} {ro:Option Nat} {S S':List SO} {n:Nat} {ds:List eE} {f f':Fm}
def CL(W:List SO)(o:Nat):List SO->List SO->Nat->Prop
 | _,[],_=>True
 | s::S,s'::S',i=>(s'=.gone\/(i≠o/\(s'=s\/∃cs cs',s=.cells cs/\s'=.cells cs'/\aM W cs cs')))/\CL W o S S' (i+1)
 | [],_::_,_=>False
def sh{W:List SO}{o:Nat}:∀{S S':List SO} {i:Nat},CL W o S S' i->∀(p:Nat) s',S'[p]?=some s'->s'≠.gone->i+p≠o/\∃s,S[p]?=some s/\s≠.gone/\(s'=s\/∃cs cs',s=.cells cs/\s'=.cells cs'/\aM W cs cs')
 | _,[],_,_,p,s',h,_=>by simp at h
 | s::S,t::S',i,hh,0,s',h,hg=>by
  simp only[a7,Option.some.injEq] at h;subst h;obtain⟨h1,h2⟩:=hh.1.resolve_left hg;refine⟨h1,s,rfl,?_,h2⟩
  rcases h2 with h2 | ⟨cs,cs',h2,h3,_⟩
  ·rw[<-h2];exact hg
  ·rw[h2];exact λh=>by cases h
 | s::S,t::S',i,hh,p+1,s',h,hg=>by
  simp only[ax] at h ⊢;obtain⟨h1,h2⟩:=sh hh.2 p s' h hg;exact⟨by omega,h2⟩
 | [],_::_,_,hh,_,_,_,_=>hh.elim
def Fg.sB(o:Nat){so:SO}(hS:S[o]?=some so)(hg:so≠.gone)(hf:HasW (gH o so) f f')(hO:CL (gH o so) o S S' 0):Fg ⟨f,n,S,ds⟩ ⟨f',n,S',ds⟩:=by
 refine⟨rfl,?_⟩;rintro ρ0 h0 ⟨af,n',h,ds'⟩ ⟨rfl,rfl,θ,ρ,hR,hF⟩
 have hsub:∀(p:Nat) (s:SO),(gH o so)[p]?=some s->s≠.gone->S[p]?=some s:=by
  intro p s h1 h2;obtain⟨rfl,rfl⟩:=jX h1 h2;exact hS
 have hR1:=hR.sub hsub
 have hset:∀(p:Nat) (s:SO),S'[p]?=some s->s≠.gone->p≠o/\∃s0,S[p]?=some s0/\s0≠.gone/\(s=s0\/∃cs cs',s0=.cells cs/\s=.cells cs'/\aM (gH o so) cs cs'):=by
  intro p s h1 h2;have:=sh hO p s h1 h2
  rwa [b9] at this
 have hm:∀id ob,ρ id=some ob->iG θ ρ h (gH o so) id=some ob:=λid ob hi=>jE hi
 have key:∀id ob,iG θ ρ h (gH o so) id=some ob->ρ id=some ob\/id=(θ o).id:=by
  intro id ob hi;unfold iG at hi
  cases hr:ρ id with
  | some ob'=>rw[hr] at hi;exact .inl hi
  | none=>
   rw[hr] at hi;simp only at hi;split at hi
   ·rename_i hex;obtain⟨p,s,q1,q2,rfl⟩:=hex;obtain⟨rfl,_⟩:=jX q1 q2;exact .inr rfl
   ·cases hi
 refine⟨rfl,rfl,θ,iG θ ρ h (gH o so),⟨hR.ok,hR.nx,hR.ob,hR.fm,hR.lw,hR.ln,?_,?_,?_,?_⟩,λi=>?_,hF.u⟩
 ·intro p s h1 h2;obtain⟨_,s0,g1,g2,g3⟩:=hset p s h1 h2;obtain⟨k,k2⟩:=hR.obj p s0 g1 g2;refine⟨k,?_⟩
  rcases g3 with rfl | ⟨cs,cs',rfl,rfl,hw⟩
  ·exact k2.mono hm rfl rfl
  ·obtain⟨aS,q1,q2,q3⟩:=k2;exact⟨aS,q1,(hw.ok hR1 q2).vs,q3⟩
 ·intro p q s s' hpq h1 h2 h3 h4;obtain⟨_,s0,g1,g2,_⟩:=hset p s h1 h2;obtain⟨_,s1,g3,g4,_⟩:=hset q s' h3 h4;exact hR.sep p q s0 s1 hpq g1 g2 g3 g4
 ·intro id ob hi;obtain⟨r1,r2⟩:=jd hR1 id ob hi;refine⟨r1,r2,λp s h1 h2=>?_⟩;obtain⟨hp,s0,g1,g2,_⟩:=hset p s h1 h2
  rcases key id ob hi with e | e
  ·exact(hR.row id ob e).2.2 p s0 g1 g2
  ·subst e;have sp:=hR.sep p o s0 so hp g1 g2 hS hg;obtain⟨k,_⟩:=hR.obj o so hS hg
   rcases k.e with e | e<;>rw[e]
   ·exact⟨sp.xx.symm,sp.yx.symm⟩
   ·exact⟨sp.xy.symm,sp.yy.symm⟩
 ·intro id ob hi
  rcases key id ob hi with e | e
  ·exact hR.gm id ob e
  ·subst e;obtain⟨k,_⟩:=hR.obj o so hS hg;exact .inr (by rcases k.e with e | e<;>rw[e];exact k.x.1;exact k.y.1)
 ·rcases hf.get i with e | e
  ·rw[e];exact(hF.v i).mono hm
  ·exact(e.ok hR1 (hF.v i)).vs
def Fg.FL(hO:CL [] S.length S S' 0):Fg ⟨f,n,S,ds⟩ ⟨f,n,S',ds⟩:=by
 refine⟨rfl,?_⟩;rintro ρ0 h0 ⟨af,n',h,ds'⟩ ⟨rfl,rfl,θ,ρ,hR,hF⟩
 have hset:∀(p:Nat) (s:SO),S'[p]?=some s->s≠.gone->∃s0,S[p]?=some s0/\s0≠.gone/\(s=s0\/∃cs cs',s0=.cells cs/\s=.cells cs'/\aM [] cs cs'):=by
  intro p s h1 h2;exact(sh hO p s h1 h2).2
 refine⟨rfl,rfl,θ,ρ,⟨hR.ok,hR.nx,hR.ob,hR.fm,hR.lw,hR.ln,?_,?_,?_,hR.gm⟩,hF⟩
 ·intro p s h1 h2;obtain⟨s0,g1,g2,g3⟩:=hset p s h1 h2;obtain⟨k,k2⟩:=hR.obj p s0 g1 g2;refine⟨k,?_⟩
  rcases g3 with rfl | ⟨cs,cs',rfl,rfl,hw⟩
  ·exact k2
  ·obtain⟨aS,q1,q2,q3⟩:=k2;have:=hw.ok hR.sM q2;rw[pG] at this;exact⟨aS,q1,this.vs,q3⟩
 ·intro p q s s' hpq h1 h2 h3 h4;obtain⟨s0,g1,g2,_⟩:=hset p s h1 h2;obtain⟨s1,g3,g4,_⟩:=hset q s' h3 h4;exact hR.sep p q s0 s1 hpq g1 g2 g3 g4
 ·intro id ob hi;obtain⟨r1,r2,r3⟩:=hR.row id ob hi;refine⟨r1,r2,λp s h1 h2=>?_⟩;obtain⟨s0,g1,g2,_⟩:=hset p s h1 h2;exact r3 p s0 g1 g2
def wo(L:Nat->Prop)(i:Nat)(so:SO):SO:=@ite _ (L i) (Classical.propDecidable _) so .gone
def jk{L:Nat->Prop}{i:Nat}{so:SO}(h:L i):wo L i so=so:=t8 h
def ec{L:Nat->Prop}{i:Nat}{so:SO}(h:¬L i):wo L i so=.gone:=ul h
def aL(L:Nat->Prop)(i k:Nat)(v:SV):vo (λj=>L j\/j=i) k v=if k=i then v else vo L k v:=by
 by_cases h:k=i
 ·rw[t8 h];exact cB (.inr h)
 ·rw[ul h];by_cases hl:L k
  ·rw[cB hl];exact cB (.inl hl)
  ·rw[ji hl];exact ji λe=>e.elim hl h
def jl(L:Nat->Prop)(i k:Nat)(so:SO):wo (λj=>L j\/j=i) k so=if k=i then so else wo L k so:=by
 by_cases h:k=i
 ·rw[t8 h];exact jk (.inr h)
 ·rw[ul h];by_cases hl:L k
  ·rw[jk hl];exact jk (.inl hl)
  ·rw[ec hl];exact ec λe=>e.elim hl h
def gU(o:Nat)(L:Nat->Prop)(i:Nat)(so:SO):killO o (wo L i so)=wo L i (killO o so):=by
 by_cases hl:L i
 ·rw[jk hl,jk hl]
 ·rw[ec hl,ec hl];rfl
def An(r:Nat->Nat)(L:Nat->Prop)(i:Nat)(v:SV):de r (vo L i v)=vo L i (de r v):=by
 by_cases hl:L i
 ·rw[cB hl,cB hl]
 ·rw[ji hl,ji hl,de]
def Ao(r:Nat->Nat)(L:Nat->Prop)(i:Nat)(so:SO):iK r (wo L i so)=wo L i (iK r so):=by
 by_cases hl:L i
 ·rw[jk hl,jk hl]
 ·rw[ec hl,ec hl];rfl
def bQ(o:Nat)(L:Nat->Prop)(i:Nat)(v:SV)(h:names o v=false):names o (vo L i v)=false:=by
 by_cases hl:L i
 ·rw[cB hl];exact h
 ·rw[ji hl];simp[names]
def Av(i:Nat)(v:SV):vo (λ_=>False) i v=.any:=ji λh=>h
def Dz(i:Nat)(so:SO):wo (λ_=>False) i so=.gone:=ec λh=>h
end
def tU.defer{P:Program}{o:Oper}{f:Nat->AV}{m:Nat}{h:H}{ds:List eE}{K:du->Prop}{c:Call}{x:Operand}{g:FuncId}{first cap xs:List AV}(hop:o.op=.defer c)(hd:m9 o.dst m=true)(hcal:c.callee=.value x)(hx:ev (cg f m) x=some (.fn (.func g) first cap))(hargs:nO (cg f m) c.args.toList=some xs)
 (hk:K ⟨wX f o.dst e7,m,h,{ fn:=some (.func g),tT:=0,args:=first++xs,cap }::ds⟩):tU P none o ⟨f,m,h,ds⟩ K:=by
 intro F n σ a w next Q hs hF hnext
 refine⟨λf _=>hF.fn f,?_⟩;have hρ:=hs.sr.t.ev;have hF':F=Fence.wide:=hF;subst hF';have hxs:=iV hρ _ _ hargs;have hV:=hρ _ _ hx;generalize hgv:a.eval x=v at hV
 cases hV with
 | @fn _ _ _ fs' cs' hfy h1 h2 h3 h4=>
  have hfs:VL σ first fs'.toList:=⟨by simpa using h1,λi a v x y=>h2 i a v x (by simpa using y)⟩
  have hcs:VL σ cap cs'.toList:=⟨by simpa using h3,λi a v x y=>h4 i a v x (by simpa using y)⟩
  have hrun:(o.semAt none a.eval).run P w=.ok (.defer { target:=.fn (.func g) cs',args:=fs'++c.args.map a.eval }) w:=by
   simp only[Oper.semAt_none,execOp,hop,resolve,hcal,hgv,Deferred.ofValue,Sem.run_bind,Sem.run_pure,Result.andThen_ok]
  show o.uponIn Fence.wide n P a next Q ((o.semAt none a.eval).run P w)
  rw[hrun];refine hnext _ _ w σ hk ⟨?_,hs.h,?_⟩ (.refl _ _ _) rfl
  ·exact(TF.put (a:={ a with defers:=_::a.defers }) hs.t (uK hd) V.e7)
  ·rw[put_defers];refine⟨⟨g,cs',rfl,rfl,?_,hcs⟩,hs.ds⟩;simp only[bt,Array.toList_map];exact hfs.append hxs
section
variable {θ θ':Nat->Loc} {ρ ρ0 ρ':ff} {P:Program} {h0:En} {h h1:H} {S S' S0:List SO}
def aB.defer{all:List Oper}{o:Oper}{l:List Oper}{K:cM->Prop}{f:Fm}{n:Nat}{ds:List eE}{cl:Call}{x:Operand}{g:FuncId}{first cap vs:List SV}(hst:cN all n [o]=true)(hop:o.op=.defer cl)(hdst:o.dst=none)(hw:bB all f o.guard=some true)(hn:n<=1000000)
 (hcal:cl.callee=.value x) (hx:cT f x=some (.fn g first cap)) (hargs:gF f cl.args.toList=some vs) (hlow:nR (7000000+ds.length) f=true)
 (hk:∀a:eE,a.fn=some (.func g)->aB P none all l ⟨(7000000+ds.length,.fn g (first++vs) cap)::f,n,S,a::ds⟩ K):aB P none all (o::l) ⟨f,n,S,ds⟩ K:=by
 rintro ρ0 h0 ⟨af,n',h,ds'⟩ ⟨rfl,rfl,θ,ρ,hR,hF⟩;obtain⟨a,ha,ka⟩:=aQ hF hx;obtain⟨aS,has,kas⟩:=fH hF hargs;rw[VS] at ka;obtain⟨xs,ys,rfl,kx,ky⟩:=ka;refine eJ.cons (bH hF (cI hst hw)) (tU.defer hop (by rw[hdst];rfl) hcal ha has ?_);rw[hdst];refine hk { fn:=some (.func g),tT:=0,args:=xs++aS,cap:=ys } rfl ρ0 h0 ⟨af,n',h,_⟩ ⟨rfl,rfl,θ,ρ,hR,?_⟩;have hF2:=hF.push { fn:=some (.func g),tT:=0,args:=xs++aS,cap:=ys } hlow;refine⟨λi=>?_,hF2.u⟩;show VS θ ρ (if 7000000+ds'.length=i then _ else aC f i) _;by_cases e:7000000+ds'.length=i
 ·subst e;have hn1:n'<=1000000:=hn;rw[t8 rfl];show VS θ ρ _ (if 7000000+ds'.length<n' then _ else od h0.w _ (7000000+ds'.length));rw[ul (by omega),od,t8 (by omega),ay,zh rfl,VS];exact⟨_,_,rfl,kx.app kas,ky⟩
 ·rw[ul e];exact hF2.v i
def oG(P:Program)(n:Nat):List eE->Fm->List SO->(Fm->List SO->Prop)->Prop
 | [],f,S,K=>K f S
 | d::ds,f,S,K=>∃f2,HasS f f2/\nR (7000000+ds.length) f2=true/\((d.fn=none/\∃o:Nat,S[o]?=some (.ik d.tT)/\oG P n ds f2 (S.set o .gone) K)\/
  ∃(g:FuncId) (first cap:List SV) (fn:Func) (c:Code) (m:Nat),d.fn=some (.func g)/\aC f (7000000+ds.length)=.fn g first cap/\P.funcs[g]?=some fn/\fn.body=some c/\(first++cap).length+(fn.ntmps-(first++cap).length)=m/\m<=1000000/\
   ak P none c ⟨fa 0 (first++cap)++upF laid f2,m,S,[]⟩ λe st=>fj e=true/\st.ds=[]/\(∃vs,gB P st.f st.S fn.results.toList=some vs)/\oG P n ds (dnF laid st.f) st.S K)
def yP{aS:List AV}:∀(o:Option (List AV)),o=some aS->o.map (λvs=>match vs with | [v]=>v | vs=>AV.aO vs)=some (CE aS):=by
 rintro _ rfl
 match aS with
 | []=>rfl
 | [_]=>rfl
 | _::_::_=>rfl
def FR.pop{f f2:Fm}{af:Nat->AV}{n:Nat}{w:Nat->AV}{d:eE}{ds:List eE}(hF:FR θ ρ (aC f) af n (od w (d::ds)))(hh:HasS f f2)(hl:nR (7000000+ds.length) f2=true):FR θ ρ (aC f2) af n (od w ds):=by
 refine⟨λi=>?_,λi hi=>by have:=hF.u i hi;rw[jj _ _ (by omega)] at this ⊢;exact this⟩
 rcases hh.get i with e | e
 ·have hv:=hF.v i;rw[e];by_cases hin:i<n
  ·rw[t8 hin] at hv ⊢;exact hv
  rw[ul hin] at hv ⊢;by_cases h1:i<7000000
  ·rw[jj _ _ h1] at hv ⊢;exact hv
  ·by_cases h2:i-7000000<ds.length
   ·cases ds with
    | nil=>simp at h2
    | cons d' ds=>
     rw[od,t8 (by omega),uJ h2] at hv;rw[od,t8 (by omega)];exact hv
   ·have e2:=lE hl (show 7000000+ds.length<=i by omega);rw[<-e,e2,VS];trivial
 ·rw[e,VS];trivial
def jN{n:Nat}{af:Nat->AV}{K:Fm->List SO->Prop}(hn:n<=1000000):∀(ds:List eE) (f:Fm) (S:List SO) (h:H) (θ:Nat->Loc) (ρ:ff),oG P n ds f S K->RS θ ρ0 ρ h0 h S->FR θ ρ (aC f) af n (od h0.w ds)->
 tY P ds h λh''=>∃f' S' θ' ρ',K f' S'/\RS θ' ρ0 ρ' h0 h'' S'/\FR θ' ρ' (aC f') af n h0.w
 | [],f,S,h,θ,ρ,hl,hR,hF=>⟨f,S,θ,ρ,hl,hR,hF⟩
 | d::ds,f,S,h,θ,ρ,hl,hR,hF=>by
  obtain⟨f2,hh,hlow,hl⟩:=hl;have hF2:=hF.pop hh hlow;rw[tY]
  rcases hl with⟨hdf,o,hS,hl⟩ | ⟨g,first,cap,fn,c,m,hdf,hfv,hfn,hb,hm,hm1,hl⟩
  ·rw[hdf];obtain⟨_,hid,hob⟩:=hR.obj o _ hS (λe=>by cases e);rw[hid] at hob;refine⟨hob,jN hn ds f2 _ _ θ ρ hl ?_ hF2⟩;rw[<-hid];exact hR.put hS (λe=>by cases e) trivial
  ·rw[hdf];have hv:=hF.v (7000000+ds.length);rw[hfv,ul (by omega)] at hv;rw[od,t8 (by omega),Nat.add_sub_cancel_left,zh hdf,VS] at hv;obtain⟨xs,ys,e,kx,ky⟩:=hv;simp only[AV.fn.injEq,true_and] at e;obtain⟨e1,e2⟩:=e
   have kall:bK θ ρ (first++cap) (d.args++d.cap):=by rw[e1,e2];exact kx.app ky
   have hlen:=kall.length;refine⟨fn,c,m,hfn,hb,by rw[hlen];exact hm,?_⟩
   obtain⟨w',hw'⟩:∃w':Nat->AV,w'=λi=>if laid<=i then (if i-laid<n then af (i-laid) else od h0.w ds (i-laid)) else e7:=⟨_,rfl⟩
   have hvl:(first++cap).length<=m:=by omega
   have hst1:eN ρ0 { h0 with w:=w' } ⟨fa 0 (first++cap)++upF laid f2,m,S,[]⟩ ⟨j8 (d.args++d.cap),m,h,[]⟩:=by
    refine⟨rfl,rfl,θ,ρ,hR.w _,λi=>?_,λi hi=>?_⟩
    ·by_cases hi:i<(first++cap).length
     ·obtain⟨w,hw⟩:=oJ (first++cap) 0 i (Nat.zero_le _) (by omega);show VS θ ρ (aC (fa 0 (first++cap)++upF laid f2) i) _;rw[mG _ _ _ hw,kZ,t8 (Nat.zero_le _),Nat.sub_zero,List.getElem?_eq_getElem hi];obtain⟨a,ha,ka⟩:=kall.get (List.getElem?_eq_getElem hi)
      have hil:i<m:=by omega
      rw[t8 hil]
      have e:j8 (d.args++d.cap) i=a:=by unfold j8;rw[ha]
      show VS θ ρ (first++cap)[i] (j8 (d.args++d.cap) i);rw[e];exact ka
     ·show VS θ ρ (aC (fa 0 (first++cap)++upF laid f2) i) _;rw[lj _ _ _ (λv=>mB (first++cap) 0 i v (by omega)),lq];by_cases hb:laid<=i
      ·rw[t8 hb,ul (show ¬i<m by unfold laid at hb;omega)];show VS θ ρ _ (w' i);rw[hw'];simp only;rw[t8 hb];exact hF2.v (i-laid)
      ·rw[ul hb,VS];trivial
    ·show w' i=e7;rw[hw'];simp only;rw[ul (by unfold laid;omega)]
   refine(hl ρ0 _ _ hst1).mono ?_;rintro ex ⟨af2,n2,h2,ds2⟩ ⟨st,⟨he,hds,⟨vs,hres⟩,hK⟩,hn2,e3,e4,θ2,ρ2,hR2,hF3⟩;simp only at e3 e4 hR2 hF3 hn2;rw[hds] at e4;subst e4;subst e3;obtain⟨aS,k1,k2⟩:=lN hR2 hF3 hres;refine⟨he,rfl,⟨CE aS,yP _ k1⟩,?_⟩;refine jN hn ds _ _ _ θ2 ρ2 hK (hR2.w h0.w) ⟨λi=>?_,hF2.u⟩;rw[lk];have:=hF3.v (laid+i);rw[ul (by rw[hn2];unfold laid;omega)] at this
   have e5:od w' [] (laid+i)=if i<n then af i else od h0.w ds i:=by
    show w' (laid+i)=_;rw[hw'];simp only;rw[t8 (by omega),Nat.add_sub_cancel_left]
   rw[e5] at this;exact this
def tY.mono{K K':H->Prop}:∀(ds:List eE) (h:H),tY P ds h K->(∀h,K h->K' h)->tY P ds h K'
 | [],h,hl,hk=>hk h hl
 | d::ds,h,hl,hk=>by
  rw[tY] at hl ⊢
  cases hdf:d.fn with
  | none=>
   rw[hdf] at hl;exact⟨hl.1,tY.mono ds _ hl.2 hk⟩
  | some f=>
   rw[hdf] at hl
   cases f with
   | func g=>
    obtain⟨fn,c,m,q1,q2,q3,q4⟩:=hl;exact⟨fn,c,m,q1,q2,q3,q4.mono λe st ⟨a1,a2,a3,a4⟩=>⟨a1,a2,a3,tY.mono ds _ a4 hk⟩⟩
   | _=>exact hl.elim
def SLvD(P:Program)(fn:Func)(Q:SV->Prop):Ex->cM->Prop:=λe st=>fj e=true/\oG P st.n st.ds st.f st.S λf S=>∃vs r,gB P f S fn.results.toList=some vs/\Wk S (bL vs) r/\Q r
def EJ(P:Program)(fn:Func)(K:Nat)(mv:List Nat)(Q:SV->List SO->Prop):Ex->cM->Prop:=λe st=>fj e=true/\oG P st.n st.ds st.f st.S λf S=>(∃vs,gB P f S fn.results.toList=some vs/\Q (bL vs) S)/\K<=S.length/\∀i,i<K->i∉mv->aC f (1000000+i)=.ptr i 0
def PC.kh(hng:kV P){g:FuncId}{fn:Func}{c:Code}{args:List SV}{Q:SV->Prop}(hf:P.funcs[g]?=some fn)(hb:fn.body=some c){n:Nat}(hn:args.length+(fn.ntmps-args.length)=n)(hlim:n<=1000000)
 (hw:ak P none c ⟨fa 0 args,n,[],[]⟩ (SLvD P fn Q)):PC P g args Q:=by
 intro ρ h avs hρ hA;have hlen:=hA.length;refine cx.kh (n:=n) hng hf hb (by rw[hlen];exact hn) ?_
 have hst:eN ρ ⟨{ h with low:=h.next },λj=>j<h.next,λj=>j<h.next,h.next,λ_=>e7⟩ ⟨fa 0 args,n,[],[]⟩ ⟨j8 avs,n,{ h with low:=h.next },[]⟩:=by
  refine⟨rfl,rfl,λ_=>⟨0,0,0,0⟩,ρ,⟨⟨λj hj=>hj,λj hj=>hj,λj hj=>a6 hj,bi _⟩,bi _,λ_ _=>rfl,λ_ _=>rfl,bi _,bi _,λo so h=>by simp at h,λo o' so so' _ h=>by simp at h,λid ob hi=>⟨(hρ id ob hi).1,(hρ id ob hi).2,λo so h=>by simp at h⟩,λid ob hi=>.inl hi⟩,?_,λ_ _=>rfl⟩;intro i;rw[kZ,t8 (dd _),dD];by_cases hi:i<args.length
  ·rw[ac hi];obtain⟨a,ha,ka⟩:=hA.get (ac hi)
   have hil:i<n:=by omega
   rw[t8 hil]
   have e:j8 avs i=a:=by unfold j8;rw[ha]
   show VS _ _ args[i] (j8 avs i);rw[e];exact ka.vs
  ·rw[bw (by omega)];simp only;rw[VS];trivial
 refine(hw ρ _ _ hst).mono ?_;rintro e ⟨af,n',h',ds'⟩ ⟨st,⟨h1,hl⟩,h6,h7,h8,θ,ρ',hR,hF⟩;simp only at h6 h7 h8 hR hF;subst h7;rw[<-h8] at hl;refine⟨h1,?_⟩;have hlv:=jN (by rw[h6];exact hlim) ds' st.f st.S h' θ ρ' hl hR hF;refine tY.mono ds' h' hlv ?_;rintro h'' ⟨f',S',θ',ρ'',⟨vs,r,h3,h4,h5⟩,hR',hF'⟩;obtain⟨aS,k1,k2⟩:=lN hR' hF' h3;refine⟨CE aS,yP _ k1,r,iG θ' ρ'' h'' S',h5,⟨hR'.nx,λj hj=>hR'.ob j hj,λj hj=>hR'.fm j hj,λhl=>?_⟩,?_,h4.ok hR' (Ae k2)⟩
 ·have:h.next<=h''.low:=hR'.lw;show dF h.low h''.low=h.low;exact jW (b0 hl this)
 ·intro id ob hi;have hlt:=jd hR' id ob hi;unfold iG at hi
  cases hr:ρ'' id with
  | some ob'=>
   rw[hr] at hi;cases hi
   rcases hR'.gm id _ hr with e | e
   ·exact .inl e
   ·exact .inr ⟨a6 e,hlt.1,hlt.2⟩
  | none=>
   rw[hr] at hi;simp only at hi;split at hi
   ·rename_i hex;obtain⟨o,so,q1,q2,rfl⟩:=hex;obtain⟨k,_⟩:=hR'.obj o so q1 q2;exact .inr ⟨a6 (by rcases k.e with e | e<;>rw[e];exact k.x.1;exact k.y.1),hlt.1,hlt.2⟩
   ·cases hi
def SC.kh(hng:kV P){g:FuncId}{fn:Func}{c:Code}{args:List SV}{mv:List Nat}{Q:SV->List SO->Prop}(hf:P.funcs[g]?=some fn)(hb:fn.body=some c){n:Nat}(hn:args.length+(fn.ntmps-args.length)=n)(hlim:n<=1000000){W:Fm}(hW:W=ij S0.length)(hK:S0.length<=1000000)
 (hw:ak P none c ⟨fa 0 args++W,n,S0,[]⟩ (EJ P fn S0.length mv Q)):SC P g args S0 mv Q:=by
 intro E θ ρ h avs hE hR hA;subst hW;have hlen:=hA.length;refine cx.kh (n:=n) hng hf hb (by rw[hlen];exact hn) ?_
 have hst:eN ρ { E with w:=λi=>if 1000000<=i/\i<1000000+S0.length then .ptr (some ((θ (i-1000000)).id,0)) else e7 } ⟨fa 0 args++ij S0.length,n,S0,[]⟩ ⟨j8 avs,n,{ h with low:=h.next },[]⟩:=by
  refine⟨rfl,rfl,θ,ρ,?_,?_,λi hi=>ul (λh=>by omega)⟩
  ·rw[<-hE]
   exact⟨⟨hR.ok.pr,hR.ok.pf,hR.ok.lo,hR.ok.ln⟩,hR.nx,hR.ob,hR.fm,hR.lw,hR.ln,λo so h1 h2=>by
    obtain⟨⟨k1,k2,k3,k4⟩,k5⟩:=hR.obj o so h1 h2
    exact⟨⟨k1,k2,k3,k4⟩,k5⟩,hR.sep,hR.row,hR.gm⟩
  ·intro i;by_cases hi:i<args.length
   ·obtain⟨w,hw⟩:=oJ args 0 i (dd _) (by omega);show VS θ ρ (aC (fa 0 args++ij S0.length) i) _;rw[mG _ _ _ hw,kZ,t8 (dd _),dD,ac hi];obtain⟨a,ha,ka⟩:=hA.get (ac hi)
    have hil:i<n:=by omega
    rw[t8 hil]
    have e:j8 avs i=a:=by unfold j8;rw[ha]
    show VS θ ρ args[i] (j8 avs i);rw[e];exact ka
   ·show VS θ ρ (aC (fa 0 args++ij S0.length) i) _;rw[lj _ _ _ (λv=>mB args 0 i v (by omega))];unfold ij;rw[uN];by_cases hc:i≥1000000/\(i-1000000)∈ci S0.length
    ·have h1:=hc.1;have h2:=mem_range.1 hc.2;rw[t8 hc,ul (show ¬i<n by omega),VS];exact t8 ⟨h1,by omega⟩
    ·rw[ul hc,VS];trivial
 refine(hw ρ _ _ hst).mono ?_;rintro e ⟨af,n',h',ds'⟩ ⟨st,⟨h1,hl⟩,h6,h7,h8,θ',ρ',hR',hF⟩;simp only at h7 h8 hR' hF h6;subst h7;rw[<-h8] at hl;refine⟨h1,?_⟩;have hlv:=jN (by rw[h6];exact hlim) ds' st.f st.S h' θ' ρ' hl hR' hF;refine tY.mono ds' h' hlv ?_;rintro h'' ⟨f',S',θ'',ρ'',⟨⟨vs,h3,h5⟩,hK2,hwt⟩,hR2,hF2⟩;obtain⟨aS,k1,k2⟩:=lN hR2 hF2 h3;refine⟨CE aS,yP _ k1,bL vs,S',θ'',ρ'',h'',h5,rfl,?_,Ae k2,hK2,?_⟩
 ·exact⟨hR.ok,hR2.nx,hR2.ob,hR2.fm,hR2.lw,hR2.ln,λo so h1 h2=>by
   obtain⟨⟨k1,k2,k3,k4⟩,k5⟩:=hR2.obj o so h1 h2
   exact⟨⟨k1,k2,k3,k4⟩,k5⟩,hR2.sep,hR2.row,hR2.gm⟩
 ·intro i hi hm;have:=hF2.v (1000000+i);rw[hwt i hi hm,ul (show ¬1000000+i<st.n by omega),VS] at this;have e2:=this.symm.trans (t8 ⟨by omega,by omega⟩);rw[ay] at e2;simp only[AV.ptr.injEq,Option.some.injEq,Prod.mk.injEq,and_true] at e2;exact e2
end
section
variable {P:Program} {S S':List SO}
def zj{B:Nat}:∀f:Fm,dnF B (upF B f)=f
 | []=>rfl
 | (d,v)::f=>by
  show(if B<=d+B then (d+B-B,v)::dnF B (upF B f) else _)=_;rw[t8 (Nat.le_add_left _ _),Nat.add_sub_cancel,zj f]
def FB(P:Program)(ro:Option Nat)(c:dw)(oo:Nat)(vs:List SV)(S:List SO)(f0:Fm)(K:Ex->List SO->Fm->Prop):Prop:=∀pend f1,S[oo]?=some (.loop c .ready pend f1)->
 ak P ro c.a ⟨sQ c.ps.toList vs (f1++upF laid f0),c.n,S,[]⟩ λex st=>ex=.normal/\∃pend2 f2,st.S[oo]?=some (.loop c .ready pend2 f2)/\
  ak P ro c.b ⟨st.f,c.n,st.S.set oo (.loop c .busy pend2 f2),st.ds⟩ λex st=>st.ds=[]/\∃ls p3 f3,st.S[oo]?=some (.loop c ls p3 f3)/\K ex (st.S.set oo (.loop c (endS ex) (endC ex) f3)) (dnF laid st.f)
def aB.yR{ro:Option Nat}{all:List Oper}{o:Oper}{l:List Oper}{K:cM->Prop}{f f1:Fm}{n d:Nat}{ds:List eE}{cl:Call}{x:Operand}{vs:List SV}{c:dw}{pend:Option Code}(oo:Nat)(hst:cN all n [o]=true)(hop:o.op=.call cl)(hdst:o.dst=some d)(hw:bB all f o.guard=some true)(hdy:dg (.call cl)=true)
 (hcal:cl.callee=.value x) (hx:cT f x=some (.a (.fn (.yield c.id) [] []))) (hargs:gF f cl.args.toList=some vs) (hS:S[oo]?=some (.loop c .ready pend f1)) (hps:c.ps.toList.length=vs.length) (hlow:nR c.n f1=true) (hn1:c.n<=1000000) (hpar:c.ps.toList.all (λk=>blt k c.n)=true)
 (hr:∀ro',FB P ro' c oo vs S f λex S' f'=>aB P ro all l ⟨(d,.a (.bool (endN ex)))::f',n,S',ds⟩ K):aB P ro all (o::l) ⟨f,n,S,ds⟩ K:=by
 refine aB.y hst hop hdst hw hdy hcal hx hargs hS hps hlow hn1 hpar λro'=>?_;refine ak.mono (hr ro' _ _ hS) ?_;rintro ex st ⟨rfl,p2,f2,h1,h2⟩;refine⟨rfl,oo,p2,f2,h1,ak.mono h2 ?_⟩;rintro ex st ⟨hds,ls,p3,f3,h3,h4⟩;exact⟨hds,oo,ls,p3,f3,h3,h4⟩
end
section
variable {P:Program} {ro:Option Nat}
def aB.mono{all l:List Oper}{st:cM}{K K':cM->Prop}(h:aB P ro all l st K)(hk:∀x,K x->K' x):aB P ro all l st K':=
 λρ0 h0 ast hs=>(h ρ0 h0 ast hs).mono λ_ ⟨x,k1,k2⟩=>⟨x,hk x k1,k2⟩
def tV(P:Program)(ro:Option Nat)(ol:List Oper):Nat->List Oper->cM->(cM->Prop)->Prop
 | _,[],x,K=>K x
 | i,o::l,x,K=>aB P ro (ol.take (i+1)) [o] x λx'=>tV P ro ol (i+1) l x' K
def ak.rQ{id:Nat}{ops:Array Oper}{st:cM}{Q:Ex->cM->Prop}{ol:List Oper}(m fuel:Nat)(F1:(Nat->Prop)->cM)(hol:ops.toList=ol)(hok:(fX 0 ol&&P.follows .mixedOrders)=true) (hgd:(ol.zipIdx.all λp=>match p.1.guard with
 | none=>true
 | some (j,_)=>blt j p.2)=true) (hm:m<ol.length)
 (hanc:((ci ol.length).all λi=>blt i m||(ci i).all λk=>(Fo ol fuel i).contains k)=true) (h0:Fg st (F1 λ_=>False)) (hn:∀L,(F1 L).n=st.n)
 (hpre:∀L i o,i<m->gg ol L->Fl ol L i o->aB P ro (ol.take (i+1)) [o] (F1 L) λx=>Fg x (F1 λj=>L j\/j=i))
 (htail:tV P ro ol m (ol.drop m) (F1 λj=>j<m) (Q .normal)):ak P ro (.region id ops true) st Q:=by
 have hgd2:∀(i:Nat) (o:Oper),ol[i]?=some o->∀(j:Nat) (b:Bool),o.guard=some (j,b)->j<i:=by
  intro i o ho j b hg;have:=all_eq_true.1 hgd (o,i) (List.mem_iff_getElem?.2 ⟨i,by rw[List.getElem?_zipIdx,ho];simp⟩);simp only[hg] at this;exact df this
 have hA:∀{L:Nat->Prop} {i k:Nat},gg ol L->(∀o,ol[i]?=some o->∀e∈o.after.toList,dep e=true->L e.on)->i<ol.length->m<=i->k<i->L k:=by
  intro L i k hc hd hi hmi hk;have h1:=all_eq_true.1 hanc i (mem_range.2 hi);rw[fy] at h1
  rcases h1 with h1 | h1
  ·have:=df h1;omega
  ·have:=all_eq_true.1 h1 k (mem_range.2 hk);exact Bw hc hd k (List.contains_iff_mem.1 this)
 refine ak.any hol hok (.inr hgd2) (λL x=>x.n=st.n/\(∀k,L k->k<ol.length)/\gg ol L/\((¬L m/\Fg x (F1 L))\/∃t,m<t/\t<=ol.length/\(∀k,L k↔k<t)/\tV P ro ol t (ol.drop t) x (Q .normal))) ⟨rfl,λ_ h=>h.elim,λ_ _ _ h=>h.elim,.inl ⟨λh=>h,h0⟩⟩ (λL x h=>h.1) ?_ ?_
 ·rintro L x i o ⟨hxn,hlt,hc,hx⟩ hr;have hil:i<ol.length:=aE hr.at';have hlt2:∀k,(L k\/k=i)->k<ol.length:=λk h=>h.elim (hlt k) (λe=>e▸hil)
  have hc2:gg ol (λj=>L j\/j=i):=by
   intro j o' ho' hj e he hd
   rcases hj with hj | rfl
   ·exact .inl (hc j o' ho' hj e he hd)
   ·have:=hr.at';rw[ho'] at this;cases this;exact .inl (hr.dep e he hd)
  have hdi:∀o',ol[i]?=some o'->∀e∈o'.after.toList,dep e=true->L e.on:=by
   intro o' ho' e he hd;have:=hr.at';rw[ho'] at this;cases this;exact hr.dep e he hd
  have hdrop:ol.drop i=o::ol.drop (i+1):=by
   rw[co hil]
   congr 1
   have:=hr.at';rw[ac hil] at this;exact Option.some.inj this
  rcases hx with⟨hnm,hfg⟩ | ⟨t,hmt,htl,hL,hch⟩
  ·refine aB.fg hfg ?_;by_cases him:i<m
   ·refine aB.mono (aB.num (hpre L i o him hc hr)) ?_;rintro x' ⟨h1,h2⟩;exact⟨by rw[h2,hn],hlt2,hc2,.inl ⟨λh=>h.elim hnm (by omega),h1⟩⟩
   ·have hie:i=m:=by
     refine Decidable.byContradiction λhne=>hnm ?_;exact hA hc hdi hil (by omega) (by omega)
    subst hie
    have hLe:L=λj=>j<i:=by
     funext k;refine propext ⟨λhk=>?_,λhk=>hA hc hdi hil (bi _) hk⟩;refine Decidable.byContradiction λhge=>?_;by_cases e:k=i
     ·subst e;exact hr.new hk
     ·exact hr.new (hA hc (λo' ho'=>hc k o' ho' hk) (hlt k hk) (by omega) (by omega))
    rw[hLe];rw[hdrop,tV] at htail;refine aB.mono (aB.num htail) ?_;rintro x' ⟨h1,h2⟩;refine⟨by rw[h2,hn],λk hk=>hk.elim (λh=>by omega) (λh=>by omega),by rw[hLe] at hc2;exact hc2,.inr ⟨i+1,by omega,hil,λk=>⟨λh=>h.elim (λh=>by omega) (λh=>by omega),λh=>?_⟩,h1⟩⟩;by_cases e:k=i
    ·exact .inr e
    ·exact .inl (by show k<i;omega)
  ·have hit:i=t:=by
    have h1:¬i<t:=λh=>hr.new ((hL i).2 h);refine Decidable.byContradiction λhne=>?_;have:=(hL t).1 (hA hc hdi hil (by omega) (by omega));omega
   subst hit;rw[hdrop,tV] at hch;refine aB.mono (aB.num hch) ?_;rintro x' ⟨h1,h2⟩;refine⟨by rw[h2,hxn],hlt2,hc2,.inr ⟨i+1,by omega,hil,λk=>⟨λh=>h.elim (λh=>by have:=(hL k).1 h;omega) (λh=>by omega),λh=>?_⟩,h1⟩⟩;by_cases e:k=i
   ·exact .inr e
   ·exact .inl ((hL k).2 (by omega))
 ·rintro L x ⟨hxn,hlt,hc,hx⟩ hall
  rcases hx with⟨hnm,_⟩ | ⟨t,hmt,htl,hL,hch⟩
  ·exact t7 (hall m hm) hnm
  ·have:t=ol.length:=by
    refine Decidable.byContradiction λhne=>?_;have:=(hL t).1 (hall t (by omega));omega
   subst this;rw[eF] at hch;exact hch
end
end
end Go.Ev
