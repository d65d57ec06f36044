/- Lemmas of this claim, each with its conditions. -/
import Derived.Test.YtiihffmamighhaaGreatA2
import Derived.Test.YtiihffmamighhaaGreatProg
import Derived.Lib.Overlaps
set_option linter.all false
open Nat (beq blt ble)
open List (mem_range mem_map all_eq_true ofFn)
open Bool renaming and_eq_true -> ac, and_self -> a6, not_false -> bv, true_and -> dk, true_or -> d5, and_true -> e6, or_false -> f9
open Nat renaming beq_refl -> aj, lt_of_lt_of_le -> ay, le_of_not_lt -> a9, le_refl -> be, le_trans -> bk, zero_add -> bo, mul_le_mul_right -> bI, lt_succ_self -> b9, add_sub_cancel_left -> cf, zero_mul -> co, min_eq_left -> dc, lt_irrefl -> er, sub_zero -> fu, sub_self -> gb, succ_mul -> gd
open Array renaming getD_eq_getD_getElem? -> al, getElem?_eq_getElem -> aO, getElem?_setIfInBounds -> bx, getElem?_toList -> b8, replicate -> d0
open List renaming getElem?_cons_succ -> ap, getElem?_cons_zero -> ax, getElem?_eq_none -> a7, getElem?_map -> a8, mem_cons_self -> ba, mem_cons_of_mem -> bc, getElem?_set_self -> bd, length_map -> bh, map_cons -> bi, getElem?_set_ne -> bt, eraseIdx_cons_succ -> bw, drop_drop -> bZ, getElem?_append_right -> b0, take_zero -> b6, replicate -> ch, drop_of_length_le -> ci, map_append -> cj, all_cons -> cn, getElem?_append -> cv, length_drop -> cX, getElem_of_mem -> dd, getElem?_append_left -> dv, drop_take -> d2, drop_zero -> d3, flatMap_cons -> d4, take_of_length_le -> d6, getElem_mem -> d7, getElem?_toArray -> d8, length_replicate -> d9, append_nil -> ei, nil_append -> ej, range -> el, toList_toArray -> em, take_take -> en, getElem?_ofFn -> eB, getElem?_take -> eF, eraseIdx_nil -> fb, reverse_cons -> fo, length_ofFn -> fx, length_take -> fy, map_nil -> f0, head?_drop -> f4, length_set -> f6, mapM_cons -> f8, take_one -> ga
open And renaming intro -> b7
open Go.Proofs.Tryz renaming prog -> ct
namespace Go.Ev
section
variable {θ θ':Nat->Loc} {ρ ρ0:lD} {P:Program}
variable{h0:En}{h:H}{S:List SO}
def JI(hR:RS θ ρ0 ρ h0 h S){id:Nat}{row:List AV}(hr:rE ρ id=some row):tS h.aV id=some row:=by
 unfold rE at hr
 cases ho:ρ id with
 | none=>rw[ho] at hr;cases hr
 | some ob=>
  have:=(hR.row id ob ho).2.1;rw[ho] at hr;unfold tS;rw[this]
  cases ob<;>first | exact hr | (cases hr;done)
variable{x:AV}{v:SV}
def IN(hR:RS θ ρ0 ρ h0 h S){tt:TypeId}{a:SV}(ha:VS θ ρ a x)(hl:BY P S tt a=some v):∃y,Gb P h tt (some x)=some y/\VS θ ρ v y:=by
 unfold BY at hl;split at hl
 ·rename_i o off;rw[VS] at ha;subst ha;split at hl
  ·rename_i cs hS;obtain⟨_,aS,q1,q2,_⟩:=hR.obj o _ hS f7;obtain⟨y,k1,k2⟩:=vZ q2 hl;exact⟨y,by rw[Et,Es (aS:=aS) (by unfold tS;rw[q1];rfl)];exact k1,k2⟩
  ·cases hl
 ·rename_i cs;rw[VS,GS] at ha;obtain⟨id,off,row,r,rfl,h2,h3,h4⟩:=ha;obtain⟨y,k1,k2⟩:=vZ (h4.vs (θ:=θ)) hl;refine⟨y,?_,k2⟩;rw[Et,Es (JI hR h2)];have:=P0 h3 k1;rw[Nat.add_zero] at this;exact this
 ·cases hl
variable{S':List SO}{y:AV}
def Qf(hR:RS θ ρ0 ρ h0 h S){tt:TypeId}{a:SV}(ha:VS θ ρ a x)(hv:VS θ ρ v y)(hs:GX P S tt a v=some S'):
 ∃h' θ',GW P h tt (some x) (some y)=some h'/\RS θ' ρ0 ρ h0 h' S'/\∀v x,VS θ ρ v x->VS θ' ρ v x:=by
 unfold GX at hs;split at hs
 ·rename_i o off;rw[VS] at ha;subst ha;split at hs
  ·rename_i cs hS;obtain⟨⟨n,_⟩,hq,hs⟩:=t6 hs;obtain⟨vs,hvs,hs⟩:=t6 hs;obtain⟨⟨b1,b2,b3⟩,hs⟩:=cy hs;cases hs;have hn:=(wV hq).2;simp only at b1 b2 hn;have kv:=xw hv hvs;subst b1;obtain⟨h',e1,e2,e3⟩:=hR.store hS kv (nE kv b3) b2;refine⟨h',_,?_,e2,e3⟩;rw[Mb];unfold H.storeVar;rw[hn,m7,kv.length,aj,ah];exact e1
  ·cases hs
 ·cases hs
def U7{P:Program}{t:Tr AV}{nm:String}{first cap:Array Operand}:eS P t h (.makeFunc (.method nm) first cap)=((Aj t first.toList).bind λa=>(Aj t cap.toList).map λb=>AV.fn (.method nm) a b).map λv=>[(some v,h)]:=rfl
variable{w:SV}
def UO(hv:VS θ ρ v x)(h:cY P v=some w):qv P x=some x/\w=v:=by
 cases v with
 | ptr o off=>simp only[cY,n8] at h;rw[VS] at hv;subst hv;exact⟨rfl,h.symm⟩
 | ip cs=>simp only[cY,n8] at h;rw[VS,GS] at hv;obtain⟨id,off,row,r,rfl,_⟩:=hv;exact⟨rfl,h.symm⟩
 | fn g a b=>simp only[cY,n8] at h;rw[VS] at hv;obtain⟨xs,ys,rfl,_⟩:=hv;exact⟨rfl,h.symm⟩
 | sl n e cs=>simp only[cY,n8] at h;rw[VS,GS] at hv;rcases hv with⟨_,_,o,e',c,rfl,_,_⟩ | ⟨id,off,cap,row,rfl,_⟩<;>exact⟨rfl,h.symm⟩
 | buf o n e c=>simp only[cY,n8] at h;rw[VS] at hv;subst hv;exact⟨rfl,h.symm⟩
 | sub o off n e c=>simp only[cY,n8] at h;rw[VS] at hv;subst hv;exact⟨rfl,h.symm⟩
 | e0 e=>simp only[cY,n8] at h;rw[VS] at hv;obtain⟨o,e',rfl,_⟩:=hv;exact⟨rfl,h.symm⟩
 | a u=>
  unfold cY at h;split at h
  case h_8 hu=>
   cases hu;obtain⟨g,hg,rfl⟩:=aq h;rw[VS] at hv;subst hv;refine⟨?_,rfl⟩;unfold qv;simp only[hg,m6]
  all_goals first | (cases h;done) | (rename_i hu;cases hu;done)
 | _=>simp[cY] at h
def OM{a b:Nat}(h:a<b):Nat.blt a b=true:=by rw[Nat.blt_eq];exact h
def NN{cs:List SV}{k:Nat}(hv:GS ρ (.ip cs) x)(hk:k<=cs.length):∃id off row,x=.ptr (some (id,off))/\rE ρ id=some row/\GS ρ (.ip (cs.drop k)) (.ptr (some (id,off+k))):=by
 rw[GS] at hv;obtain⟨id,off,row,r,rfl,h2,h3,h4⟩:=hv;refine⟨id,off,row,rfl,h2,?_⟩;have hl:=h4.length;rw[fy,cX] at hl;rw[GS];refine⟨id,off+k,row,r-k,rfl,h2,by omega,?_⟩;have:=h4.drop k;rw[d2,bZ] at this;exact this
def Dd{s:TypeId}{fl:Nat}(hv:VS θ ρ v x)(h:q7 P s v fl=some w):∃y,kc P s x fl=some y/\VS θ ρ w y:=by
 unfold q7 at h;obtain⟨q,hq,h⟩:=t6 h;obtain⟨hn0,h⟩:=cy h;obtain⟨fs,fd,hu,_,hfd,hn,e1,_⟩:=xL hq
 have hb:beq q.2.2 0=false:=by
  cases hb:beq q.2.2 0
  ·rfl
  ·exact t7 (cZ hb) hn0
 cases v with
 | ptr o off=>
  simp only at h;cases h;rw[VS] at hv;subst hv;unfold kc;rw[hu];simp only;rw[hfd,m7,hn,m7,hb,ar,e1];exact⟨_,rfl,by rw[VS]⟩
 | ip cs=>
  simp only at h;obtain⟨hk,h⟩:=cy h;cases h;rw[VS] at hv;obtain⟨id,off,row,rfl,_,h2⟩:=NN hv hk;unfold kc;rw[hu];simp only;rw[hfd,m7,hn,m7,hb,ar,e1];exact⟨_,rfl,by rw[VS];exact h2⟩
 | _=>simp at h
def Ph{s:TypeId}{fl:Nat}(hv:VS θ ρ v x)(h:Bw P s v fl=some w):∃y,xI P s x fl=some y/\VS θ ρ w y:=by
 cases v with
 | ag cs=>
  simp only[Bw] at h;rw[VS] at hv;obtain⟨aS,rfl,hv⟩:=hv;obtain⟨q,hq,h⟩:=t6 h;obtain⟨fs,fd,hu,_,hfd,hn,e1,e2⟩:=xL hq;obtain⟨y,k1,k2⟩:=vZ hv h;unfold xI;rw[hu];simp only;rw[hfd,m7,e1,e2];exact⟨y,k1,k2⟩
 | _=>simp[Bw] at h
def Gk{i:Nat}(hv:VS θ ρ v x)(h:PN v=some i):dx x=some i:=by
 cases v with
 | a v=>rw[VS] at hv;subst hv;exact h
 | _=>simp[PN] at h
variable{t:TypeId}
def Df{iv:SV}{ix:AV}(hv:VS θ ρ v x)(hi:VS θ ρ iv ix)(h:rh P t v iv=some w):∃y,lR P t x ix=some y/\VS θ ρ w y:=by
 unfold rh at h;obtain⟨i,hin,h2⟩:=t6 h;clear h;unfold lR;rw[Gk hi hin,m7]
 cases har:VE P t with
 | some q=>
  rw[har] at h2;simp only at h2;obtain⟨hu,hs⟩:=HV har;obtain⟨hlt,h⟩:=cy h2;rw[hu];have hlb:blt i q.1=true:=OM hlt
  cases v with
  | ptr o off=>
   simp only at h;cases h;rw[VS] at hv;subst hv;simp only;rw[hs,m7,hlb,ah];exact⟨_,rfl,by rw[VS]⟩
  | ip cs=>
   simp only at h;obtain⟨hk,h⟩:=cy h;cases h;rw[VS] at hv;obtain⟨id,off,row,rfl,_,h2⟩:=NN hv hk;simp only;rw[hs,m7,hlb,ah];exact⟨_,rfl,by rw[VS];exact h2⟩
  | _=>simp at h
 | none=>
  rw[har] at h2;simp only at h2;obtain⟨q,hq,h⟩:=t6 h2;obtain⟨hu,hs⟩:=ib hq;obtain⟨e,s⟩:=q;simp only at hu hs h;rw[hu]
  cases v with
  | sl n es cs=>
   simp only at h;obtain⟨⟨hlt,hse⟩,h⟩:=cy h;cases h;subst hse;have hlb:blt i n=true:=OM hlt;rw[VS,GS] at hv
   rcases hv with⟨h1,_⟩ | ⟨id,off,cap,row,rfl,h2,h3,h4⟩
   ·omega
   ·simp only;rw[hs,m7,hlb,aj,a6,ah];refine⟨_,rfl,?_⟩
    have hms:i*s+s<=n*s:=by
     have:=bI s (show i+1<=n by omega);rw[gd] at this;exact this
    rw[VS,GS];refine⟨id,off+i*s,row,s,rfl,h2,by omega,?_⟩;have:=(h4.drop (i*s)).take s;rw[d2,bZ,en,dc gt] at this;exact this
  | buf o n es c=>
   simp only at h;obtain⟨⟨hlt,hse⟩,h⟩:=cy h;cases h;subst hse;have hlb:blt i n=true:=OM hlt;rw[VS] at hv;subst hv;simp only;rw[hs,m7,hlb,aj,a6,ah];exact⟨_,rfl,by rw[VS,bo]⟩
  | sub o off n es c=>
   simp only at h;obtain⟨⟨hlt,hse⟩,h⟩:=cy h;cases h;subst hse;have hlb:blt i n=true:=OM hlt;rw[VS] at hv;subst hv;simp only;rw[hs,m7,hlb,aj,a6,ah];exact⟨_,rfl,by rw[VS]⟩
  | _=>simp at h
def Pn{iv:SV}{ix:AV}(hv:VS θ ρ v x)(hi:VS θ ρ iv ix)(h:F0 P t v iv=some w):∃y,xS P t x ix=some y/\VS θ ρ w y:=by
 unfold F0 at h;obtain⟨i,hin,h2⟩:=t6 h;clear h;unfold xS;rw[Gk hi hin,m7]
 cases v with
 | ag cs=>
  simp only at h2;obtain⟨q,hq,h⟩:=t6 h2;obtain⟨hu,hs⟩:=HV hq;obtain⟨hlt,h⟩:=cy h;rw[hu];rw[VS] at hv;obtain⟨aS,rfl,hv⟩:=hv;simp only;rw[hs,m7,OM hlt,ah];exact vZ hv h
 | a v=>
  cases v with
  | str s=>
   simp only at h2
   cases hk:jw P t with
   | str=>
    rw[hk] at h2;simp only at h2;rw[BU hk];rw[VS] at hv;subst hv;simp only;obtain⟨b,hb,rfl⟩:=aq h2;rw[hb];exact⟨_,rfl,by rw[VS]⟩
   | _=>rw[hk] at h2;cases h2
  | _=>simp at h2
 | _=>simp at h2
def Qb{lo hi mx:Option AV}(hv:VS θ ρ v x)(h1:ox P t v lo hi mx=some w):∃y,yi P h t x lo hi mx=some y/\VS θ ρ w y:=by
 unfold ox at h1;unfold yi;split at h1
 ·rename_i s hk;rw[BU hk];rw[VS] at hv;subst hv
  cases mx with
  | some _=>cases h1
  | none=>
   simp only at h1 ⊢;obtain⟨b,hb,rfl⟩:=aq h1;rw[hb];exact⟨_,rfl,by rw[VS]⟩
 ·rename_i n es cs hk
  cases mx with
  | some m=>
   simp only at h1;obtain⟨⟨e,s⟩,hq,h1⟩:=t6 h1;obtain⟨hu,hs⟩:=ib hq;simp only at hu hs h1;rw[hu];obtain⟨⟨rfl,h2,h3,h4⟩,h5⟩:=cy h1;cases h5;subst h4;obtain⟨hv0,rfl,h2⟩:=t6 h2
   have hb:∀cap,c7 n cap none (some hv0) (some m)=some (0,0,some 0):=by
    intro cap;unfold c7;simp only;have h2':dx hv0=some 0:=h2
    have hf:rQ n cap 0=true:=by unfold rQ;rw[fH (Nat.zero_le n)];rfl
    rw[h3,m7,hf,ah,h2'];rfl
   rw[VS,GS] at hv
   rcases hv with⟨rfl,rfl,o,e',c,rfl,ho,hoe⟩ | ⟨id,off,cap,row,rfl,h6,h7,h8⟩
   ·simp only;rw[hs,m7,hb,m7];simp only
    cases o with
    | none=>exact⟨_,rfl,by rw[VS];exact⟨none,0,rfl,λh=>t7 rfl h⟩⟩
    | some q=>
     obtain⟨id,off⟩:=q;rw[hoe f5];simp only;rw[aj,ah];exact⟨_,rfl,by rw[VS];exact⟨_,_,rfl,λ_=>rfl⟩⟩
   ·simp only;rw[hs,m7,hb,m7];simp only;rw[aj,ah];exact⟨_,rfl,by rw[VS];exact⟨_,_,rfl,λ_=>rfl⟩⟩
  | none=>
   simp only at h1;obtain⟨⟨e,s⟩,hq,h1⟩:=t6 h1;obtain⟨hu,hs⟩:=ib hq;simp only at hu hs;rw[hu];obtain⟨⟨l,hh,m⟩,hb,h1⟩:=t6 h1;obtain⟨hse,h1⟩:=cy h1;cases h1;simp only at hse;subst hse
   have hbd:∀cap,(c7 n cap lo hi none=some (l,hh,cap))/\l<=hh/\hh<=n:=by
    intro cap;unfold c7 at hb ⊢;simp only at hb ⊢;obtain⟨q,hq,hb⟩:=t6 hb
    have hq2:qi n cap hi=some q/\q<=n:=by
     cases hi with
     | none=>simp only[qi,n8] at hq ⊢;exact⟨hq,by omega⟩
     | some hv=>
      simp only[qi] at hq ⊢;obtain⟨k,hk,hq⟩:=t6 hq;obtain⟨hf,hq⟩:=aI hq;cases hq;simp only[rQ,f9] at hf;rw[hk,m7];unfold rQ;rw[hf,d5,ah];exact⟨rfl,j8 hf⟩
    rw[hq2.1,m7]
    cases lo with
    | none=>simp only[n8,m8] at hb ⊢;obtain⟨rfl,rfl,_⟩:=hb;exact⟨by simp,Nat.zero_le _,hq2.2⟩
    | some lv=>
     simp only at hb ⊢;obtain⟨k,hk,hb⟩:=t6 hb;obtain⟨hf,hb⟩:=aI hb;simp only[n8,m8] at hb;obtain⟨rfl,rfl,_⟩:=hb;rw[hk,m7,hf,ah];exact⟨by simp,j8 hf,hq2.2⟩
   rw[VS,GS] at hv
   rcases hv with⟨rfl,rfl,o,e',c,rfl,ho,hoe⟩ | ⟨id,off,cap,row,rfl,h2,h3,h4⟩
   ·obtain⟨b1,b2,b3⟩:=hbd c
    have hl0:l=0:=by omega
    have hh0:hh=0:=by omega
    subst hl0;subst hh0;simp only;rw[hs,m7,b1,m7];simp only
    cases o with
    | none=>
     exact⟨_,rfl,by rw[VS,GS];exact .inl ⟨rfl,by simp,none,0,some 0,rfl,λ_=>rfl,λh=>t7 rfl h⟩⟩
    | some q=>
     obtain⟨id,off⟩:=q;rw[hoe f5];simp only;rw[aj,ah];exact⟨_,rfl,by rw[VS,GS];exact .inl ⟨rfl,by simp,_,_,_,rfl,λh=>(by cases h),λ_=>rfl⟩⟩
   ·obtain⟨b1,b2,b3⟩:=hbd cap;simp only;rw[hs,m7,b1,m7];simp only;rw[aj,ah];refine⟨_,rfl,?_⟩;rw[VS,GS];have m1:l*s<=hh*s:=bI s b2;have m2:hh*s<=n*s:=bI s b3;refine .inr ⟨id,off+l*s,bD cap l,row,rfl,h2,by rw[Nat.sub_mul];omega,?_⟩;have:=(h4.drop (l*s)).take ((hh-l)*s);rw[d2,bZ,en,dc (by rw[Nat.sub_mul];omega)] at this;exact this
 ·rename_i o n es c hk
  cases mx with
  | some _=>cases h1
  | none=>
   simp only at h1;obtain⟨⟨e,s⟩,hq,h1⟩:=t6 h1;obtain⟨hu,hs⟩:=ib hq;simp only at hu hs;rw[hu];obtain⟨⟨l,hh,m⟩,hb,h1⟩:=t6 h1;obtain⟨hse,h1⟩:=cy h1;cases h1;simp only at hse;subst hse;rw[VS] at hv;subst hv;simp only;rw[hs,m7,hb,m7];simp only;rw[aj,ah]
   cases lo with
   | none=>
    have hl0:l=0:=by
     unfold c7 at hb;simp only at hb;obtain⟨q,hq,hb⟩:=t6 hb;simp only[n8,m8] at hb;exact hb.1.symm
    subst hl0;exact⟨_,rfl,by rw[VS,co]⟩
   | some _=>exact⟨_,rfl,by rw[VS,bo]⟩
 ·rename_i o off n es c hk
  cases mx with
  | some _=>cases h1
  | none=>
   simp only at h1;obtain⟨⟨e,s⟩,hq,h1⟩:=t6 h1;obtain⟨hu,hs⟩:=ib hq;simp only at hu hs;rw[hu];obtain⟨⟨l,hh,m⟩,hb,h1⟩:=t6 h1;obtain⟨hse,h1⟩:=cy h1;cases h1;simp only at hse;subst hse;rw[VS] at hv;subst hv;simp only;rw[hs,m7,hb,m7];simp only;rw[aj,ah];exact⟨_,rfl,by rw[VS]⟩
 ·rename_i hk;obtain⟨⟨e,s⟩,hq,h1⟩:=t6 h1;obtain⟨hu,hs⟩:=ib hq;simp only at hu hs;rw[hu];obtain⟨⟨l,hh,m⟩,hb,rfl⟩:=aq h1;rw[VS] at hv;subst hv;simp only;rw[hs,m7,hb,m7];exact⟨_,rfl,by rw[VS]⟩
 ·rename_i e0 hk;obtain⟨⟨e,s⟩,hq,h1⟩:=t6 h1;obtain⟨hu,hs⟩:=ib hq;simp only at hu hs;rw[hu];obtain⟨⟨l,hh,m⟩,hb,h1⟩:=t6 h1;obtain⟨⟨hl0,hh0,hm0,hse⟩,h5⟩:=cy h1;clear h1;cases h5;simp only at hse;subst hl0;subst hh0;subst hm0;subst hse;rw[VS] at hv;obtain⟨o,e',rfl,hoe⟩:=hv;simp only;rw[hs,m7,hb,m7];simp only
  cases o with
  | none=>exact⟨_,rfl,by rw[VS];exact⟨none,0,rfl,λh=>t7 rfl h⟩⟩
  | some q=>
   obtain⟨id,off⟩:=q;rw[hoe f5];simp only;rw[aj,ah];exact⟨_,rfl,by rw[VS];exact⟨_,_,rfl,λ_=>rfl⟩⟩
 ·cases h1
end
section
variable {θ θ':Nat->Loc} {ρ ρ0:lD} {P:Program}
variable{h0:En}{h:H}{S:List SO}{v:SV}{x:AV}
def NA(hR:RS θ ρ0 ρ h0 h S)(hv:VS θ ρ v x){e:List AV×List SV}(he:Ah S v=some e):
 (x=.map none/\e=([],[]))\/∃id l c,x=.map (some id)/\h.mapOf id=some (l,c)/\l.map (·.1)=e.1/\df θ ρ e.2 (l.map (·.2.1)):=by
 unfold Ah at he;split at he
 ·rename_i o;rw[VS] at hv;subst hv;split at he
  ·rename_i ks vs b hS;cases he;obtain⟨_,l,c,q1,⟨q2,_⟩,q3⟩:=hR.obj o _ hS f7;exact .inr ⟨_,l,c,rfl,by unfold H.mapOf;rw[q1],q2,q3⟩
  ·cases he
 ·cases he;rw[VS,GS] at hv;obtain⟨id,l,c,rfl,h2,h3,h4⟩:=hv;exact .inr ⟨id,l,c,rfl,by unfold H.mapOf;rw[(hR.row id _ h2).2.1],h3.1,h4.vs⟩
 ·cases he;rw[VS] at hv;subst hv;exact .inl ⟨rfl,rfl⟩
 ·cases he
variable{t:TypeId}{w:SV}{y:AV}
def LA(hR:RS θ ρ0 ρ h0 h S){k:SV}{ok:Bool}(hv:VS θ ρ v x)(hk:VS θ ρ k y)(hl:eJ P S t v k ok=some w):∃z,tn P h t x y ok=some z/\VS θ ρ w z:=by
 unfold eJ at hl;obtain⟨⟨kt,et⟩,hm,hl⟩:=t6 hl;obtain⟨ka,hka,hl⟩:=t6 hl;have:=iS hk hka;subst this;obtain⟨hkey,hl⟩:=aI hl;obtain⟨⟨ks,vs⟩,hent,hl⟩:=t6 hl;obtain⟨r,hf,hl⟩:=t6 hl;obtain⟨⟨u,b⟩,hu,rfl⟩:=aq hl;unfold tn;rw[hm,m7];simp only;rw[hkey,ah]
 have fin:∀z:AV,VS θ ρ u z->VS θ ρ (cond ok (.bB [u,.a (.bool b)]) u) (cond ok (.bB [z,.bool b]) z):=by
  intro z hz;cases ok
  ·exact hz
  ·rw[ah,ah,VS];refine⟨_,rfl,?_⟩;rw[aG];refine⟨z,_,rfl,hz,?_⟩;rw[aG];exact⟨_,[],rfl,by rw[VS],by rw[aU]⟩
 rcases NA hR hv hent with⟨rfl,he⟩ | ⟨id,l,c,rfl,h1,h2,h3⟩
 ·cases he;simp only[sj,n8] at hf;subst hf;obtain⟨z,hz,hu⟩:=aq hu;cases hu;simp only[m7,iR,hz,m6];exact⟨_,rfl,fin _ (CD z)⟩
 ·simp only at h2 h3 hf;simp only[h1,m6,m7];rw[p6,h2,hf,m7]
  cases r with
  | none=>
   obtain⟨z,hz,hu⟩:=aq hu;cases hu;simp only[hz,m6];exact⟨_,rfl,fin _ (CD z)⟩
  | some i=>
   obtain⟨e,he,hu⟩:=aq hu;cases hu;obtain⟨z,hz,kz⟩:=h3.get he;rw[a8] at hz;obtain⟨e3,he3,rfl⟩:=aq hz;simp only[he3,m6];exact⟨_,rfl,fin _ kz⟩
def jr{α:Type}(g:AV×AV×Nat->α)(x:AV×AV×Nat):∀(l:List (AV×AV×Nat)) (i:Nat),(setAt x l i).map g=(l.map g).set i (g x)
 | [],i=>by cases i<;>rfl
 | e::l,0=>rfl
 | e::l,i+1=>by
  rw[setAt,bi,bi,List.set_cons_succ,jr g x l i]
def pw.snoc{l:List (AV×AV×Nat)}{c:Nat}(h:pw l c)(k v:AV):pw (l++[(k,v,c)]) (c+1):=by
 refine⟨?_,λe he=>?_⟩
 ·rw[cj,List.nodup_append];refine⟨h.1,by simp,?_⟩;intro a ha b hb;obtain⟨e,he,rfl⟩:=mem_map.1 ha;simp only[bi,f0,List.mem_singleton] at hb;subst hb;exact Nat.ne_of_lt (h.2 e he)
 ·rcases List.mem_append.1 he with he | he
  ·exact Nat.lt_succ_of_lt (h.2 e he)
  ·rw[rc he];exact b9 _
def pw.Gu{l l':List (AV×AV×Nat)}{c:Nat}(h:pw l c)(hb:l'.map (·.2.2)=l.map (·.2.2)):pw l' c:=by
 refine⟨by rw[hb];exact h.1,λe he=>?_⟩;have:e.2.2∈l'.map (·.2.2):=List.mem_map_of_mem he;rw[hb] at this;obtain⟨e',he',q⟩:=mem_map.1 this;rw[<-q];exact h.2 e' he'
variable{S':List SO}
def B3(hR:RS θ ρ0 ρ h0 h S){k:SV}{z:AV}(hv:VS θ ρ v x)(hk:VS θ ρ k y)(hw:VS θ ρ w z)(hl:gn P S t v k w=some S'):∃h',lX P h t x y z=some h'/\RS θ ρ0 ρ h0 h' S':=by
 unfold gn at hl;obtain⟨⟨kt,et⟩,hm,hl⟩:=t6 hl;obtain⟨ka,hka,hl⟩:=t6 hl;have:=iS hk hka;subst this;obtain⟨hkey,hl⟩:=aI hl;unfold lX;rw[hm,m7];simp only;rw[hkey,ah]
 cases v with
 | map o=>
  rw[VS] at hv;subst hv;simp only at hl ⊢;split at hl
  ·rename_i ks vs b hS;obtain⟨_,l,c,q1,⟨q2,qb,qp⟩,q3⟩:=hR.obj o _ hS f7
   have hmo:h.mapOf (θ o).id=some (l,c):=by unfold H.mapOf;rw[q1]
   obtain⟨r,hf,hl⟩:=t6 hl;rw[hmo,m7];simp only;rw[p6,q2,hf,m7]
   cases r with
   | none=>
    simp only at hl ⊢;cases hl;refine⟨_,rfl,hR.PJ hS ?_ ?_⟩
    ·refine⟨by rw[cj,q2];rfl,qb.snoc _ _,λp hp=>?_⟩;obtain⟨p0,hp0,rfl⟩:=aq hp;obtain⟨e1,e2⟩:=qp p0 hp0;exact⟨by rw[cj,e1,e2];rfl,by rw[e2]⟩
    ·rw[cj];refine q3.app ?_;rw[bi,f0,aG];exact⟨_,[],rfl,hw,by rw[aU]⟩
   | some i=>
    simp only at hl ⊢;obtain⟨k0,hk0,hl⟩:=t6 hl;obtain⟨hst,hl⟩:=aI hl;cases hl;rw[<-q2,a8] at hk0;obtain⟨e3,he3,rfl⟩:=aq hk0;rw[he3,m7,hst,ah];refine⟨_,rfl,hR.PJ hS ?_ ?_⟩
    ·have hb:(setAt (y,z,e3.2.2) l i).map (·.2.2)=l.map (·.2.2):=by
      rw[jr];apply List.ext_getElem?;intro j;rw[List.getElem?_set];split
      ·rename_i e;subst e;split
       ·rw[a8,he3];rfl
       ·rename_i hl;rw[bh] at hl;rw[a7 (by rw[bh];omega)]
      ·rfl
     exact⟨by rw[jr,q2],qb.Gu hb,λp hp=>by rw[hb];exact qp p hp⟩
    ·rw[jr];exact q3.set i hw
  ·cases hl
 | _=>simp at hl
def df.erase:∀{ds:List SV} {aS:List AV} (i:Nat),df θ ρ ds aS->df θ ρ (ds.eraseIdx i) (aS.eraseIdx i)
 | [],aS,i,h=>by rw[aU] at h;subst h;rw[fb,fb,aU]
 | d::ds,aS,i,h=>by
  rw[aG] at h;obtain⟨a,r,rfl,h1,h2⟩:=h
  cases i with
  | zero=>exact h2
  | succ i=>rw[bw,bw,aG];exact⟨a,_,rfl,h1,df.erase i h2⟩
def gf{α β:Type}(g:α->β):∀(l:List α) (i:Nat),(l.eraseIdx i).map g=(l.map g).eraseIdx i
 | [],i=>by simp
 | a::l,0=>rfl
 | a::l,i+1=>by rw[bw,bi,bi,bw,gf g l i]
def Uo(hR:RS θ ρ0 ρ h0 h S){k:SV}(hv:VS θ ρ v x)(hk:VS θ ρ k y)(hl:O8 P S t v k=some S'):∃h',vd P h t x y=some (.bB [],h')/\RS θ ρ0 ρ h0 h' S':=by
 unfold O8 at hl;obtain⟨⟨kt,et⟩,hm,hl⟩:=t6 hl;obtain⟨ka,hka,hl⟩:=t6 hl;have:=iS hk hka;subst this;obtain⟨hkey,hl⟩:=aI hl;unfold vd;rw[hm,m7];simp only;rw[hkey,ah]
 cases v with
 | map o=>
  rw[VS] at hv;subst hv;simp only at hl ⊢;split at hl
  ·rename_i ks vs b hS;obtain⟨_,l,c,q1,⟨q2,qb,qp⟩,q3⟩:=hR.obj o _ hS f7
   have hmo:h.mapOf (θ o).id=some (l,c):=by unfold H.mapOf;rw[q1]
   obtain⟨r,hf,rfl⟩:=aq hl;rw[hmo,m7];simp only;rw[p6,q2,hf,m6]
   cases r with
   | none=>exact⟨_,rfl,hR⟩
   | some i=>
    refine⟨_,rfl,hR.PJ hS ?_ ?_⟩
    ·refine⟨by rw[gf,q2],⟨by rw[gf];exact qb.1.sublist (List.eraseIdx_sublist _ _),λe he=>qb.2 e (List.mem_of_mem_eraseIdx he)⟩,λp hp=>?_⟩;obtain⟨p0,hp0,rfl⟩:=aq hp;obtain⟨e1,e2⟩:=qp p0 hp0;exact⟨by rw[gf,e1],e2⟩
    ·rw[gf];exact q3.erase i
  ·cases hl
 | _=>simp at hl
variable{n:Nat}
def UE(hR:RS θ ρ0 ρ h0 h S)(hv:VS θ ρ v x)(hl:BW P S t v=some n):IL P h t x=some (.int .i64 (n:Int)):=by
 unfold BW at hl;unfold IL;split at hl
 ·rename_i s hk;rw[BU hk];rw[VS] at hv;subst hv;cases hl;rfl
 ·rename_i n' _ cs hk;obtain⟨e,hu⟩:=rk hk;rw[hu];rw[VS,GS] at hv;cases hl
  rcases hv with⟨rfl,_,o,e',c,rfl,_,_⟩ | ⟨id,off,cap,row,rfl,_⟩<;>rfl
 ·rename_i o n' _ c hk;obtain⟨e,hu⟩:=rk hk;rw[hu];rw[VS] at hv;subst hv;cases hl;rfl
 ·rename_i n' _ c hk;obtain⟨e,hu⟩:=rk hk;rw[hu];rw[VS] at hv;subst hv;cases hl;rfl
 ·rename_i hk;obtain⟨kt,et,hu⟩:=R0 hk;rw[hu];obtain⟨e,he,rfl⟩:=aq hl
  rcases NA hR hv he with⟨rfl,rfl⟩ | ⟨id,l,c,rfl,h1,h2,h3⟩
  ·rfl
  ·simp only[h1,m6,<-h2,bh];rfl
 ·rename_i o off n' _ c hk;obtain⟨e,hu⟩:=rk hk;rw[hu];rw[VS] at hv;subst hv;cases hl;rfl
 ·rename_i e hk;obtain⟨e,hu⟩:=rk hk;rw[hu];rw[VS] at hv;obtain⟨o,e',rfl,_⟩:=hv;cases hl;rfl
 ·cases hl
def JJ(hR:RS θ ρ0 ρ h0 h S){s m:Nat}{new:List SV}(hv:VS θ ρ v x)(hl:wx S s v=some (m,new)):
 ∃o es c xs,x=.slice o m es c/\(beq es s||beq m 0)=true/\cK h o m s=some xs/\df θ ρ new xs:=by
 unfold wx at hl;split at hl
 ·rename_i n e cs;obtain⟨hb,hl⟩:=cy hl;cases hl;subst hb;rw[VS,GS] at hv
  rcases hv with⟨rfl,rfl,o,e',c,rfl,_,_⟩ | ⟨id,off,cap,row,rfl,h2,h3,h4⟩
  ·refine⟨o,e',c,[],rfl,by simp,?_,by rw[aU]⟩;unfold cK
   cases o with
   | none=>rfl
   | some q=>rfl
  ·refine⟨_,e,cap,(row.drop off).take (m*e),rfl,by rw[aj,d5],?_,h4.vs⟩;unfold cK;simp only;cases hm:beq m 0
   ·rw[ar,nH,JI hR h2];simp only[m7,mP];rw[fH h3,ah]
   ·have:=cZ hm;subst this;rw[ah,co,b6]
 ·rename_i o n e c;split at hl
  ·rename_i cs hS;obtain⟨⟨hes,hle⟩,hl⟩:=cy hl;cases hl;subst hes;rw[VS] at hv;subst hv;obtain⟨_,aS,q1,q2,_⟩:=hR.obj o _ hS f7;refine⟨_,e,c,aS.take (m*e),rfl,by rw[aj,d5],?_,q2.take _⟩;unfold cK;simp only;cases hm:beq m 0
   ·rw[ar,nH];unfold tS;rw[q1];simp only[m7,mP];show mP aS 0 (m*e)=_;unfold mP;rw[fH (show 0+m*e<=aS.length by rw[q2.length];omega),ah,d3]
   ·have:=cZ hm;subst this;rw[ah,co,b6]
  ·cases hl
 ·cases hl;rw[VS] at hv;subst hv;exact⟨none,0,some 0,[],rfl,by simp,rfl,by rw[aU]⟩
 ·rename_i o off n e c;split at hl
  ·rename_i cs hS;obtain⟨⟨hes,hle⟩,hl⟩:=cy hl;cases hl;subst hes;rw[VS] at hv;subst hv;obtain⟨_,aS,q1,q2,_⟩:=hR.obj o _ hS f7;refine⟨_,e,c,(aS.drop off).take (m*e),rfl,by rw[aj,d5],?_,(q2.drop off).take _⟩;unfold cK;simp only;cases hm:beq m 0
   ·rw[ar,nH];unfold tS;rw[q1];simp only[m7,mP];show mP aS off (m*e)=_;unfold mP;rw[fH (show off+m*e<=aS.length by rw[q2.length];omega),ah]
   ·have:=cZ hm;subst this;rw[ah,co,b6]
  ·cases hl
 ·cases hl;rw[VS] at hv;obtain⟨o,e',rfl,_⟩:=hv;refine⟨o,e',some 0,[],rfl,by simp,?_,by rw[aU]⟩;unfold cK
  cases o with
  | none=>rfl
  | some q=>rfl
 ·cases hl
def Ja{a b:Nat}(h:a≠b):beq a b=false:=by
 cases hb:beq a b
 ·rfl
 ·exact t7 (cZ hb) h
def LK(hR:RS θ ρ0 ρ h0 h S){xt e:TypeId}{s m:Nat}{z:AV}{new:List SV}(hz:dE P e=some z)(hzl:z.cells.length=s)(hw:VS θ ρ w y)(hl:AY P S xt s z w=some (m,new)):
 ∃xs,nG P h e s xt y=some (m,xs)/\df θ ρ new xs:=by
 unfold AY at hl;unfold nG;split at hl
 ·rename_i hk;obtain⟨e',hux⟩:=rk hk;obtain⟨o,es,c,xs,rfl,k1,k2,k3⟩:=JJ hR hw hl;rw[hux];simp only;rw[k1,ah,k2];exact⟨xs,rfl,k3⟩
 ·obtain⟨hi,hl⟩:=aI hl;obtain⟨n,hn,hl⟩:=t6 hl;obtain⟨hb,hl⟩:=cy hl;cases hl;unfold isInt at hi;split at hi
  ·rename_i kk hu;rw[hu];simp only;rw[Gk hw hn,m7,hz,m7,fH hb,hzl,aj,a6,ah];exact⟨_,rfl,df.a _⟩
  ·cases hi
 ·cases hl
variable{r:SV}
def KY(hR:RS θ ρ0 ρ h0 h S){st xt:TypeId}{kill:Option Nat}(hv:VS θ ρ v x)(hw:VS θ ρ w y)(hl:AD P S st xt v w=some (r,S',kill)):
 ∃z h' θ',u9 P h st xt x y=some (z,h')/\RS θ' ρ0 ρ h0 h' S'/\VS θ' ρ r z/\∀v x,VS θ ρ v x->VS θ' ρ (kZ kill v) x:=by
 unfold AD at hl;have hl2:=t6 hl;clear hl;obtain⟨⟨e,s⟩,hel,hl⟩:=hl2;obtain⟨hu,hs⟩:=ib hel;simp only at hu hs hl;obtain⟨i,hi,rfl⟩:=aq hs;have hl2:=t6 hl;clear hl;obtain⟨z,hz,hl⟩:=hl2;have hl2:=cy hl;clear hl;obtain⟨⟨b1,b2,b3⟩,hl⟩:=hl2;have hl2:=t6 hl;clear hl;obtain⟨⟨m,new⟩,hrow,hl⟩:=hl2;unfold qV at b3;rw[hi] at b3;simp only at b3 hl;have b2':=Ja b2;obtain⟨xs,happ,k3⟩:=LK hR hz b1 hw hrow;unfold u9;rw[hu];by_cases hm:m=0
 ·rw[t8 hm] at hl
  have hmb:beq m 0=true:=by rw[hm];rfl
  unfold QW at hl;split at hl
  ·cases hl;have hv':=hv;rw[VS] at hv;subst hv;simp only[hi,hz,m7,b1,b2',b3,aj,fH (show 0<=1000000 by omega),bv,a6,ah,happ,hmb];exact⟨_,_,θ,rfl,hR,hv',λv x h=>h⟩
  ·obtain⟨hn,hl⟩:=cy hl;cases hl;have hv':=hv;rw[VS] at hv;subst hv;simp only[hi,hz,m7,b1,b2',b3,aj,fH hn,bv,a6,ah,happ,hmb];exact⟨_,_,θ,rfl,hR,hv',λv x h=>h⟩
  ·cases hl;have hv':=hv;rw[VS] at hv;obtain⟨o',e',rfl,_⟩:=hv;simp only[hi,hz,m7,b1,b2',b3,aj,fH (show 0<=1000000 by omega),bv,a6,ah,happ,hmb];exact⟨_,_,θ,rfl,hR,hv',λv x h=>h⟩
  ·cases hl
 ·rw[ul hm] at hl;have hmb:=Ja hm;have hl2:=cy hl;clear hl;obtain⟨⟨b4,b5⟩,hl⟩:=hl2;have hone:=nE k3 b5;unfold OK at hl;split at hl
  ·rw[VS] at hv;subst hv;cases hl;obtain⟨n1,n2⟩:=hR.new (so:=.cells new) (ob:=.cells xs h.next) (.inl ⟨new,xs,rfl,rfl,k3⟩);simp only[hi,hz,m7,b1,b2',b3,aj,fH (show 0<=1000000 by omega),bv,a6,ah,happ,hmb,ar,fH b4,H.oe];refine⟨_,_,_,rfl,n1,?_,n2⟩;rw[VS,cF]
  ·rename_i o' n es';rw[VS] at hv;subst hv;split at hl
   ·rename_i cs hS;obtain⟨⟨c1,c2,c3⟩,hl2⟩:=cy hl;cases hl2;subst c1;obtain⟨_,aS,q1,q2,q3⟩:=hR.obj o' _ hS f7;obtain⟨f1,f2,f3⟩:=hR.fork hS k3 q1 c3
    have hle:ble (n*i.size) aS.length=true:=by rw[q2.length];exact fH c3
    simp only[hi,hz,m7,b1,b2',b3,fH c2,bv,a6,ah,happ,hmb,ar,fH b4,aj,q1,hle,hone,bo];refine⟨_,_,_,rfl,f2,?_,f3⟩;rw[VS,cF,f1]
   ·cases hl
  ·rename_i e';obtain⟨c1,hl2⟩:=cy hl;cases hl2;rw[VS] at hv;obtain⟨o',e'',rfl,ho'⟩:=hv;obtain⟨n1,n2⟩:=hR.new (so:=.cells new) (ob:=.cells xs h.next) (.inl ⟨new,xs,rfl,rfl,k3⟩)
   cases o' with
   | none=>
    simp only[hi,hz,m7,b1,b2',b3,aj,fH (show 0<=1000000 by omega),bv,a6,ah,happ,hmb,ar,fH b4,H.oe];refine⟨_,_,_,rfl,n1,?_,n2⟩;rw[VS,cF]
   | some q=>
    have:=ho' f5;subst this;subst c1;obtain⟨id,off⟩:=q
    have hnl:ble (0+m) 0=false:=by
     cases hb:ble (0+m) 0
     ·rfl
     ·have:=md hb;omega
    have hsc:cK h (some (id,off)) 0 i.size=some []:=rfl;simp only[hi,hz,m7,b1,b2',b3,aj,fH (show 0<=1000000 by omega),bv,a6,ah,happ,hmb,ar,fH b4,H.oe,hnl,hsc,m6,ej];refine⟨_,_,_,rfl,n1,?_,n2⟩;rw[VS,cF,bo]
  ·rename_i o' n es' c';rw[VS] at hv;subst hv;split at hl
   ·rename_i cs hS;obtain⟨⟨c1,c2,c3,c4⟩,hl2⟩:=cy hl;cases hl2;subst c1;obtain⟨_,aS,q1,q2,q3⟩:=hR.obj o' _ hS f7;obtain⟨n1,n2⟩:=hR.new (so:=.cells (cs.take (n*i.size)++new)) (ob:=.cells (aS.take (n*i.size)++xs) h.next) (.inl ⟨_,_,rfl,rfl,(q2.take _).app k3⟩)
    have hnl:ble (n+m) c'=false:=by
     cases hb:ble (n+m) c'
     ·rfl
     ·have:=md hb;omega
    have hsc:cK h (some ((θ o').id,0)) n i.size=some (aS.take (n*i.size)):=by
     unfold cK;simp only;cases hm:beq n 0
     ·rw[ar,nH];unfold tS;rw[q1];simp only[m7];show mP aS 0 (n*i.size)=_;unfold mP;rw[fH (show 0+n*i.size<=aS.length by rw[q2.length];omega),ah,d3]
     ·have:=cZ hm;subst this;rw[ah,co,b6]
    simp only[hi,hz,m7,b1,b2',b3,fH c2,bv,a6,ah,happ,hmb,ar,fH b4,aj,hnl,hsc,m6,H.oe];refine⟨_,_,_,rfl,n1,?_,n2⟩;rw[VS,cF]
   ·cases hl
  ·cases hl
def Uc{x:SV}{a:AV}{c:Nat}(hv:VS θ ρ x a)(hc:K4 x=some c):∃o n e,a=.slice o n e (some c):=by
 unfold K4 at hc;split at hc
 ·cases hc;rw[VS] at hv;exact⟨_,_,_,hv⟩
 ·cases hc;rw[VS] at hv;exact⟨_,_,_,hv⟩
 ·cases hc;rw[VS] at hv;exact⟨_,_,_,hv⟩
 ·cases hc;rw[VS] at hv;obtain⟨o,e',rfl,_⟩:=hv;exact⟨_,_,_,rfl⟩
 ·cases hc
def QZ{x:SV}{a:AV}{o off e:Nat}(hv:VS θ ρ x a)(hc:Xg x=some (o,off,n,e)):∃c,a=.slice (some ((θ o).id,off)) n e c:=by
 unfold Xg at hc;split at hc
 ·cases hc;rw[VS] at hv;exact⟨_,hv⟩
 ·cases hc;rw[VS] at hv;exact⟨_,hv⟩
 ·cases hc
def Rr(hR:RS θ ρ0 ρ h0 h S){kill:Option Nat}(hv:VS θ ρ v x)(hw:VS θ ρ w y)(hl:Nv P S t v w=some (r,S',kill)):
 ∃z h' θ',H9 P h t x y=some (z,h')/\RS θ' ρ0 ρ h0 h' S'/\VS θ' ρ r z/\∀v x,VS θ ρ v x->VS θ' ρ (kZ kill v) x:=by
 unfold Nv at hl;obtain⟨⟨e,s⟩,hel,hl⟩:=t6 hl;obtain⟨hu,hs⟩:=ib hel;obtain⟨⟨o,off,dl,des⟩,hat,hl⟩:=t6 hl;obtain⟨⟨m,new⟩,hrow,hl⟩:=t6 hl;obtain⟨cap,rfl⟩:=QZ hv hat;obtain⟨o',es,c,xs,rfl,k1,k2,k3⟩:=JJ hR hw hrow;simp only at hl hu hs hrow k2;unfold H9;rw[hu];simp only;rw[hs,m7];unfold Rq at hl;by_cases hn:Nat.min m dl=0
 ·rw[t8 hn] at hl;cases hl;rw[hn];exact⟨_,_,θ,rfl,hR,by rw[VS],λv x h=>h⟩
 ·rw[ul hn] at hl;split at hl
  ·rename_i cs hS;obtain⟨⟨c1,c2,c3,c4⟩,hl2⟩:=cy hl;cases hl2;subst c1;have hm:m≠0:=λe=>hn (by rw[e];exact Nat.zero_min _)
   have hes:es=des:=by
    rw[Ja hm,f9] at k1;exact cZ k1
   subst hes;have hmn:Nat.min m dl<=m:=Nat.min_le_left _ _;generalize Nat.min m dl=n at *
   obtain⟨id,off',row,rfl,hch⟩:∃id off' row,o'=some (id,off')/\tS h.aV id=some row/\off'+m*es<=row.length/\xs=(row.drop off').take (m*es):=by
    unfold cK at k2
    cases o' with
    | none=>simp[Ja hm] at k2
    | some q=>
     obtain⟨id,off'⟩:=q;simp only[Ja hm,ar,nH] at k2;obtain⟨row,hr,k2⟩:=t6 k2;unfold mP at k2;obtain⟨hb,k2⟩:=aI k2;exact⟨id,off',row,rfl,hr,md hb,by cases k2;rfl⟩
   have hle:n*es<=m*es:=bI _ hmn
   have hsc:cK h (some (id,off')) n es=some (xs.take (n*es)):=by
    unfold cK;simp only[Ja hn,ar,nH,hch.1,m7];unfold mP;rw[fH (show off'+n*es<=row.length by omega),ah,hch.2.2,en,dc hle]
   have hl1:(new.take (n*es)).length=n*es:=by rw[fy,dc c3]
   obtain⟨h',e1,e2,e3⟩:=hR.store (off:=off) hS (k3.take (n*es)) (nE (k3.take _) c4) (by rw[hl1];exact c2);refine⟨_,h',_,?_,by rw[hl1] at e2;exact e2,by rw[VS],e3⟩;rw[Ja hn,ar,aj,a6,ah,hsc,m7];simp only[e1,m6];rfl
  ·cases hl
def O1(hR:RS θ ρ0 ρ h0 h S){kill:Option Nat}(hv:VS θ ρ v x)(hl:FO P S t v=some (r,S',kill)):
 ∃z h' θ',Bj P h t x=some (z,h')/\RS θ' ρ0 ρ h0 h' S'/\VS θ' ρ r z/\∀v x,VS θ ρ v x->VS θ' ρ (kZ kill v) x:=by
 unfold FO at hl;obtain⟨⟨e,s⟩,hel,hl⟩:=t6 hl;obtain⟨hu,hs⟩:=ib hel;obtain⟨z,hz,hl⟩:=t6 hl;obtain⟨⟨o,off,n,es⟩,hat,hl⟩:=t6 hl;obtain⟨cap,rfl⟩:=QZ hv hat;simp only at hl hu hs hz;unfold Bj;rw[hu];simp only;rw[hs,m7,hz,m7];by_cases hn:n=0
 ·rw[t8 hn] at hl;cases hl;subst hn;exact⟨_,_,θ,rfl,hR,by rw[VS];rfl,λv x h=>h⟩
 ·rw[ul hn] at hl;split at hl
  ·rename_i cs hS;obtain⟨⟨c1,c2,c3,c4⟩,hl2⟩:=cy hl;cases hl2;subst c1
   have hl1:((rep z.cells n).map SV.a).length=n*es:=by
    rw[bh,gT,c2]
   obtain⟨h',e1,e2,e3⟩:=hR.store (off:=off) hS (df.a (rep z.cells n)) c4 (by rw[hl1];exact c3);refine⟨_,h',_,?_,by rw[hl1] at e2;exact e2,by rw[VS],e3⟩;rw[Ja hn,ar,aj,c2,aj,a6,ah];simp only[e1,m6];rfl
  ·cases hl
variable{vs:List SV}
def H4(hR:RS θ ρ0 ρ h0 h S){b:Builtin}{ats:List TypeId}{xs:List AV}{kill:Option Nat}(hv:df θ ρ vs xs)(hl:iO P S b ats vs=some (r,S',kill)):
 ∃z h' θ',nS P h b ats xs=some (z,h')/\RS θ' ρ0 ρ h0 h' S'/\VS θ' ρ r z/\∀v x,VS θ ρ v x->VS θ' ρ (kZ kill v) x:=by
 unfold iO at hl;split at hl
 ·rename_i st xt l x y;rw[aG] at hv;obtain⟨a,r1,rfl,h1,hv⟩:=hv;rw[aG] at hv;obtain⟨a2,r2,rfl,h2,hv⟩:=hv;rw[aU] at hv;subst hv;have:=KY hR h1 h2 hl;exact this
 ·rename_i t l x xs';rw[aG] at hv;obtain⟨a,r1,rfl,h1,hv⟩:=hv;obtain⟨n,hn,hl⟩:=aq hl;cases hl;have:=UE hR h1 hn;refine⟨.int .i64 (n:Int),h,θ,?_,hR,?_,λv x h=>h⟩
  ·show(IL P h t a).map (λv=>(v,h))=_;rw[this];rfl
  ·rw[VS]
 ·rename_i x l;rw[aG] at hv;obtain⟨a,r1,rfl,h1,hv⟩:=hv;obtain⟨n,hn,hl⟩:=aq hl;cases hl;obtain⟨z,hz,kz⟩:=Gh h1 hv hn;refine⟨z,h,θ,?_,hR,kz,λv x h=>h⟩;unfold nS;split<;>simp_all
 ·rename_i x l;rw[aG] at hv;obtain⟨a,r1,rfl,h1,hv⟩:=hv;obtain⟨n,hn,hl⟩:=aq hl;cases hl;obtain⟨z,hz,kz⟩:=Gh h1 hv hn;refine⟨z,h,θ,?_,hR,kz,λv x h=>h⟩;unfold nS;split<;>simp_all
 ·rename_i t l x k l';rw[aG] at hv;obtain⟨a,r1,rfl,h1,hv⟩:=hv;rw[aG] at hv;obtain⟨a2,r2,rfl,h2,hv⟩:=hv;obtain⟨S2,hS2,hl⟩:=aq hl;cases hl;obtain⟨h',e1,e2⟩:=Uo hR h1 h2 hS2;exact⟨_,h',θ,e1,e2,by rw[VS];rfl,λv x h=>h⟩
 ·rename_i dt l x y;rw[aG] at hv;obtain⟨a,r1,rfl,h1,hv⟩:=hv;rw[aG] at hv;obtain⟨a2,r2,rfl,h2,hv⟩:=hv;rw[aU] at hv;subst hv;exact Rr hR h1 h2 hl
 ·rename_i t l x;rw[aG] at hv;obtain⟨a,r1,rfl,h1,hv⟩:=hv;rw[aU] at hv;subst hv;exact O1 hR h1 hl
 ·rename_i t l x;rw[aG] at hv;obtain⟨a,r1,rfl,h1,hv⟩:=hv;rw[aU] at hv;subst hv;obtain⟨⟨e,s⟩,hel,hl⟩:=t6 hl;obtain⟨hu,_⟩:=ib hel;obtain⟨c,hc,hl⟩:=aq hl;cases hl;obtain⟨o,n,e',rfl⟩:=Uc h1 hc;refine⟨.int .i64 (c:Int),h,θ,?_,hR,by rw[VS],λv x h=>h⟩;show(match P.underlying t with | some (.slice _)=>some (AV.int .i64 (Int.ofNat c),h) | _=>none)=_;rw[hu];rfl
 ·cases hl
def SS{c a b:Option SV}(h:N0 c a b=some v):∃z x y,c=some (.a (.bool z))/\a=some x/\b=some y/\v=cond z x y:=by
 unfold N0 at h;split at h
 ·cases h;exact⟨_,_,_,rfl,rfl,rfl,rfl⟩
 ·cases h
def FR.lT{f:Fm}{af:Nat->AV}{n:Nat}{kill:Option Nat}{wv:Nat->AV}(hF:FR θ ρ (aP f) af n wv)(hk:∀v x,VS θ ρ v x->VS θ' ρ (kZ kill v) x):FR θ' ρ (aP (Ev.lT f kill)) af n wv:=by
 refine⟨λi=>?_,hF.u⟩;have:=hk _ _ (hF.v i)
 cases kill with
 | none=>exact this
 | some o=>show VS θ' ρ (aP (eg o f) i) _;rw[jl];exact this
variable{f:Fm}{af:Nat->AV}{wv:Nat->AV}
def FR.put(hF:FR θ ρ (aP f) af n wv){d:Nat}(hd:d<n)(hv:VS θ ρ v x):FR θ ρ (aP ((d,v)::f)) (C6 af d x) n wv:=by
 refine⟨λi=>?_,hF.u⟩;show VS θ ρ (if d=i then v else aP f i) _;by_cases hdi:d=i
 ·subst hdi;rw[t8 rfl,t8 hd,wW];exact hv
 ·rw[ul hdi,tI _ _ (λe=>hdi e.symm)];exact hF.v i
def FR.kill{f:Fm}{af:Nat->AV}{n:Nat}{kill:Option Nat}{wv:Nat->AV}(hF:FR θ ρ (aP f) af n wv)(hk:∀v x,VS θ ρ v x->VS θ' ρ (kZ kill v) x){d:Nat}{v:SV}{x:AV}(hd:d<n)(hv:VS θ' ρ v x):FR θ' ρ (aP (uw f kill (some d) v)) (C6 af d x) n wv:=(hF.lT hk).put hd hv
def Tp(hR:RS θ ρ0 ρ h0 h S)(hF:FR θ ρ (aP f) af n wv){op:Op}{kill:Option Nat}(hop:dY P f S op=some (r,S',kill)):
 ∃rv h' θ',eS P (dy af n) h op=some [(rv,h')]/\RS θ' ρ0 ρ h0 h' S'/\VS θ' ρ r (Yq rv)/\∀v x,VS θ ρ v x->VS θ' ρ (kZ kill v) x:=by
 have pure:∀{w:SV} {y:AV},eS P (dy af n) h op=some [(some y,h)]->VS θ ρ w y->some (w,S,(none:Option Nat))=some (r,S',kill)->∃rv h' θ',eS P (dy af n) h op=some [(rv,h')]/\RS θ' ρ0 ρ h0 h' S'/\VS θ' ρ r (Yq rv)/\∀v x,VS θ ρ v x->VS θ' ρ (kZ kill v) x:=by
  intro w y h1 h2 h3;cases h3;exact⟨some y,h,θ,h1,hR,h2,λv x h=>h⟩
 have fresh:∀{so:SO} {ob:AO} {w:SV} {y:AV},eS P (dy af n) h op=some [(some y,{ h.lay h.next ob with next:=h.next+1 })]->((∃cs aS,so=.cells cs/\ob=.cells aS h.next/\df θ ρ cs aS)\/(so=.map [] [] none/\ob=.map [] 0))->VS (iH θ S.length ⟨h.next,h.next,h.next,h.next⟩) ρ w y->some (w,iX S so,some S.length)=some (r,S',kill)->∃rv h' θ',eS P (dy af n) h op=some [(rv,h')]/\RS θ' ρ0 ρ h0 h' S'/\VS θ' ρ r (Yq rv)/\∀v x,VS θ ρ v x->VS θ' ρ (kZ kill v) x:=by
  intro so ob w y h1 h2 h3 h4;cases h4;obtain⟨k1,k2⟩:=hR.new h2;exact⟨some y,_,_,h1,k1,h3,k2⟩
 cases op with
 | move x=>
  obtain⟨v,hv,e⟩:=aq hop;obtain⟨a,ha,ka⟩:=bE hF hv;exact pure (by rw[U8,ha];rfl) ka (by rw[e])
 | assign x=>
  obtain⟨v,hv,e⟩:=aq hop;obtain⟨a,ha,ka⟩:=bE hF hv;exact pure (by rw[PV,ha];rfl) ka (by rw[e])
 | pick c a b=>
  obtain⟨v,hv,e⟩:=aq hop;obtain⟨z,x,y,h1,h2,h3,rfl⟩:=SS hv;obtain⟨c',g1,k1⟩:=bE hF h1;obtain⟨a',g2,k2⟩:=bE hF h2;obtain⟨b',g3,k3⟩:=bE hF h3;rw[VS] at k1;subst k1;exact pure (w:=cond z x y) (y:=cond z a' b') (by rw[U9,g1,g2,g3];rfl) (by cases z;exact k3;exact k2) (by rw[e])
 | alloc e=>
  obtain⟨z,hz,he⟩:=aq hop;exact fresh (w:=.ptr S.length 0) (so:=.cells (z.cells.map .a)) (ob:=.cells z.cells h.next) (by rw[Sy,hz];rfl) (.inl ⟨_,_,rfl,rfl,df.a _⟩) (by rw[VS,cF]) (by rw[he])
 | box e x=>
  obtain⟨v,hv,hop⟩:=t6 hop;obtain⟨cs,hcs,he⟩:=aq hop;obtain⟨a,ha,ka⟩:=bE hF hv;exact fresh (w:=.ptr S.length 0) (so:=.cells cs) (ob:=.cells a.cells h.next) (by rw[WN,ha];rfl) (.inl ⟨_,_,rfl,rfl,xw ka hcs⟩) (by rw[VS,cF]) (by rw[he])
 | build tt ps=>
  obtain⟨l,hl,hop⟩:=t6 hop;obtain⟨v,hv,he⟩:=aq hop;obtain⟨aS,h1,k1⟩:=yj hF hl;obtain⟨a,ha,ka⟩:=OP k1 hv;exact pure (by rw[Sz,h1,m7,ha];rfl) ka (by rw[he])
 | buildSlice tt m ps=>
  obtain⟨l,hl,hop⟩:=t6 hop;obtain⟨q,hv,he⟩:=aq hop;obtain⟨aS,h1,k1⟩:=yj hF hl;obtain⟨cs,ha,ka⟩:=Bh k1 hv;exact fresh (w:=.buf S.length m q.1 (some m)) (so:=.cells q.2) (ob:=.cells cs h.next) (by rw[Dm,h1,m7,ha];rfl) (.inl ⟨_,_,rfl,rfl,ka⟩) (by rw[VS,cF]) (by rw[he])
 | makeMap tt x=>
  cases x with
  | none=>
   have he:some ((SV.map S.length,iX S (.map [] [] none),some S.length):SV×List SO×Option Nat)=some (r,S',kill):=hop;exact fresh (w:=.map S.length) (so:=.map [] [] none) (ob:=.map [] 0) (by rw[LU]) (.inr ⟨rfl,rfl⟩) (by rw[VS,cF]) he
  | some _=>simp[dY] at hop
 | makeSlice tt l c=>
  simp only[dY] at hop;split at hop
  ·rename_i la ca hl hc;obtain⟨q,hq,he⟩:=aq hop;obtain⟨l',g1,k1⟩:=bE hF hl;obtain⟨c',g2,k2⟩:=bE hF hc;rw[VS] at k1 k2;subst k1;subst k2;refine fresh (w:=.buf S.length q.1 q.2.1 (some q.2.2.1)) (so:=.cells (q.2.2.2.map .a)) (ob:=.cells q.2.2.2 h.next) (y:=.slice (some (h.next,0)) q.1 q.2.1 (some q.2.2.1)) ?_ (.inl ⟨_,_,rfl,rfl,df.a _⟩) (by rw[VS,cF]) (by rw[he]);simp only[eS,qO,g1,g2,m7,hq,m6]
  ·cases hop
 | load tt a=>
  obtain⟨a',ha,hop⟩:=t6 hop;obtain⟨v,hv,he⟩:=aq hop;obtain⟨x,g1,k1⟩:=bE hF ha;obtain⟨y,g2,k2⟩:=IN hR k1 hv;exact pure (by rw[U6,g1,g2];rfl) k2 (by rw[he])
 | store tt a x=>
  obtain⟨a',ha,hop⟩:=t6 hop;obtain⟨x',hx,hop⟩:=t6 hop;obtain⟨S2,hS,he⟩:=aq hop;cases he;obtain⟨p,g1,k1⟩:=bE hF ha;obtain⟨y,g2,k2⟩:=bE hF hx;obtain⟨h',θ',e1,e2,e3⟩:=Qf hR k1 k2 hS;exact⟨none,h',θ',by rw[SH,g1,g2,e1];rfl,e2,by rw[VS];rfl,e3⟩
 | nilCheck x=>
  obtain⟨a',ha,hop⟩:=t6 hop;obtain⟨v,hv,he⟩:=aq hop;obtain⟨p,g1,k1⟩:=bE hF ha;obtain⟨e1,rfl⟩:=UO (P:=P) k1 hv;refine pure (y:=p) ?_ k1 (by rw[he]);simp only[eS,g1,m7,e1,m6]
 | binOp op t x y yt=>
  obtain⟨x',hx,hop⟩:=t6 hop;obtain⟨y',hy,hop⟩:=t6 hop;obtain⟨xa,hxa,hop⟩:=t6 hop;obtain⟨ya,hya,hop⟩:=t6 hop;obtain⟨v,hv,he⟩:=aq hop;obtain⟨p,g1,k1⟩:=bE hF hx;obtain⟨q,g2,k2⟩:=bE hF hy;have e1:=iS k1 hxa;have e2:=iS k2 hya;subst e1;subst e2;exact pure (w:=.a v) (y:=v) (by rw[LQ,g1,g2,m7,m7,hv];rfl) (by rw[VS]) (by rw[he])
 | unOp op t x=>
  obtain⟨x',hx,hop⟩:=t6 hop;obtain⟨xa,hxa,hop⟩:=t6 hop;obtain⟨v,hv,he⟩:=aq hop;obtain⟨p,g1,k1⟩:=bE hF hx;have e1:=iS k1 hxa;subst e1;exact pure (w:=.a v) (y:=v) (by rw[XO,g1,m7,hv];rfl) (by rw[VS]) (by rw[he])
 | convert s d x=>
  obtain⟨x',hx,hop⟩:=t6 hop;obtain⟨xa,hxa,hop⟩:=t6 hop;obtain⟨v,hv,he⟩:=aq hop;obtain⟨p,g1,k1⟩:=bE hF hx;have e1:=iS k1 hxa;subst e1;exact pure (w:=.a v) (y:=v) (by rw[U4,g1,m7,hv];rfl) (by rw[VS]) (by rw[he])
 | makeInterface t x=>
  simp only[dY] at hop;obtain⟨hi,hop⟩:=aI hop;obtain⟨v,hv,he⟩:=aq hop;obtain⟨p,g1,k1⟩:=bE hF hv;refine pure (w:=.iface t v) (y:=.iface t p) ?_ (by rw[VS];exact⟨p,rfl,k1⟩) (by rw[he]);unfold NK at hi
  cases hu:P.underlying t with
  | none=>rw[hu] at hi;cases hi
  | some d=>
   rw[hu] at hi;rw[SB hu (by cases d<;>first | rfl | cases hi),g1];rfl
 | makeFunc g first cap=>
  cases g with
  | func g=>
   obtain⟨a,ha,hop⟩:=t6 hop;obtain⟨b,hb,he⟩:=aq hop;obtain⟨p,g1,k1⟩:=mg hF ha;obtain⟨q,g2,k2⟩:=mg hF hb;exact pure (w:=.fn g a b) (y:=.fn (.func g) p q) (by rw[U5,g1,g2];rfl) (by rw[VS];exact⟨p,q,rfl,k1,k2⟩) (by rw[he])
  | method nm=>
   obtain⟨a,ha,hop⟩:=t6 hop;obtain⟨a2,ha2,hop⟩:=t6 hop;obtain⟨b,hb,hop⟩:=t6 hop;obtain⟨b2,hb2,he⟩:=aq hop;obtain⟨p,g1,k1⟩:=mg hF ha;obtain⟨q,g2,k2⟩:=mg hF hb;have e1:=p9 k1 ha2;have e2:=p9 k2 hb2;subst e1;subst e2;exact pure (w:=.a (.fn (.method nm) p q)) (y:=.fn (.method nm) p q) (by rw[U7,g1,g2];rfl) (by rw[VS]) (by rw[he])
  | _=>simp[dY] at hop
 | slice tt x lo hi mx=>
  obtain⟨x',hx,hop⟩:=t6 hop;obtain⟨lo',hlo,hop⟩:=t6 hop;obtain⟨hi',hhi,hop⟩:=t6 hop;obtain⟨mx',hmx,hop⟩:=t6 hop;obtain⟨v,hv,he⟩:=aq hop;obtain⟨p,g1,k1⟩:=bE hF hx;obtain⟨y,g2,k2⟩:=Qb (h:=h) k1 hv;refine pure (y:=y) ?_ k2 (by rw[he]);rw[SG,g1,GP hF hlo,GP hF hhi,GP hF hmx];simp only[m7,g2,m6]
 | fieldAddr s x fl=>
  obtain⟨x',hx,hop⟩:=t6 hop;obtain⟨v,hv,he⟩:=aq hop;obtain⟨p,g1,k1⟩:=bE hF hx;obtain⟨y,g2,k2⟩:=Dd k1 hv;exact pure (by rw[Gw,g1,m7,g2];rfl) k2 (by rw[he])
 | field s x fl=>
  obtain⟨x',hx,hop⟩:=t6 hop;obtain⟨v,hv,he⟩:=aq hop;obtain⟨p,g1,k1⟩:=bE hF hx;obtain⟨y,g2,k2⟩:=Ph k1 hv;exact pure (by rw[SA,g1,m7,g2];rfl) k2 (by rw[he])
 | indexAddr t x i=>
  obtain⟨x',hx,hop⟩:=t6 hop;obtain⟨i',hi,hop⟩:=t6 hop;obtain⟨v,hv,he⟩:=aq hop;obtain⟨p,g1,k1⟩:=bE hF hx;obtain⟨q,g3,k3⟩:=bE hF hi;obtain⟨y,g2,k2⟩:=Df k1 k3 hv;exact pure (by rw[Gx,g1,g3,m7,m7,g2];rfl) k2 (by rw[he])
 | index t x i=>
  obtain⟨x',hx,hop⟩:=t6 hop;obtain⟨i',hi,hop⟩:=t6 hop;obtain⟨v,hv,he⟩:=aq hop;obtain⟨p,g1,k1⟩:=bE hF hx;obtain⟨q,g3,k3⟩:=bE hF hi;obtain⟨y,g2,k2⟩:=Pn k1 k3 hv;exact pure (by rw[SE,g1,g3,m7,m7,g2];rfl) k2 (by rw[he])
 | lookup t x k ok=>
  obtain⟨x',hx,hop⟩:=t6 hop;obtain⟨i',hi,hop⟩:=t6 hop;obtain⟨v,hv,he⟩:=aq hop;obtain⟨p,g1,k1⟩:=bE hF hx;obtain⟨q,g3,k3⟩:=bE hF hi;obtain⟨y,g2,k2⟩:=LA hR k1 k3 hv;exact pure (by rw[PW,g1,g3,m7,m7,g2];rfl) k2 (by rw[he])
 | mapUpdate t m k x=>
  obtain⟨m',hm,hop⟩:=t6 hop;obtain⟨k',hk,hop⟩:=t6 hop;obtain⟨x',hx,hop⟩:=t6 hop;obtain⟨S2,hS,he⟩:=aq hop;cases he;obtain⟨p,g1,k1⟩:=bE hF hm;obtain⟨q,g2,k2⟩:=bE hF hk;obtain⟨y,g3,k3⟩:=bE hF hx;obtain⟨h',e1,e2⟩:=B3 hR k1 k2 k3 hS;refine⟨none,h',θ,?_,e2,by rw[VS];rfl,λv x h=>h⟩;rw[Gy,g1,g2,g3];simp only[m7,e1,m6]
 | insert t m k x=>
  obtain⟨m',hm,hop⟩:=t6 hop;obtain⟨k',hk,hop⟩:=t6 hop;obtain⟨x',hx,hop⟩:=t6 hop;obtain⟨S2,hS,he⟩:=aq hop;cases he;obtain⟨p,g1,k1⟩:=bE hF hm;obtain⟨q,g2,k2⟩:=bE hF hk;obtain⟨y,g3,k3⟩:=bE hF hx;obtain⟨h',e1,e2⟩:=B3 hR k1 k2 k3 hS;refine⟨none,h',θ,?_,e2,by rw[VS];rfl,λv x h=>h⟩;simp only[eS,g1,g2,g3,m7,e1,m6]
 | extract x i=>
  simp only[dY] at hop;split at hop
  ·rename_i vs hx;obtain⟨v,hv,he⟩:=aq hop;obtain⟨p,g1,k1⟩:=bE hF hx;rw[VS] at k1;obtain⟨aS,rfl,k1⟩:=k1;obtain⟨y,g2,k2⟩:=k1.get hv;refine pure (y:=y) ?_ k2 (by rw[he]);rw[LS,g1];simp only[D0,g2,m6]
  ·cases hop
 | call c=>
  obtain⟨callee,args,ats⟩:=c
  cases callee with
  | builtin b=>
   obtain⟨xs,hxs,hop⟩:=t6 hop;obtain⟨p,g1,k1⟩:=mg hF hxs;obtain⟨z,h',θ',e1,e2,e3,e4⟩:=H4 hR k1 hop;refine⟨some z,h',θ',?_,e2,e3,e4⟩;rw[LR,g1,m7,e1];rfl
  | _=>simp[dY] at hop
 | _=>simp[dY] at hop
end
noncomputable section
structure eU where
 f:Fm
 n:Nat
 S:List SO
 ds:List jy
def Xh(ds:List jy)(j:Nat):AV:=match ds.reverse[j]? with
 | some d=>match d.fn with
  | some f=>.fn f d.args d.cap
  | none=>kJ
 | none=>kJ
def Az(w:Nat->AV):List jy->Nat->AV
 | [],i=>w i
 | d::ds,i=>if 7000000<=i then Xh (d::ds) (i-7000000) else w i
def kP(ρ0:lD)(h0:En)(st:eU)(ast:gZ):Prop:=ast.n=st.n/\ast.ds=st.ds/\∃θ ρ,RS θ ρ0 ρ h0 ast.h st.S/\FR θ ρ (aP st.f) ast.f st.n (Az h0.w ast.ds)
def Xy(ρ0:lD)(h0:En)(N:Nat)(Q:Ex->eU->Prop):Ex->gZ->Prop:=λex ast=>∃st,Q ex st/\st.n=N/\kP ρ0 h0 st ast
def aD(P:Program)(ro:Option Nat)(c:Code)(st:eU)(Q:Ex->eU->Prop):Prop:=∀ρ0 h0 ast,kP ρ0 h0 st ast->l9 P ro c ast (Xy ρ0 h0 st.n Q)
def aJ(P:Program)(ro:Option Nat)(all l:List Oper)(st:eU)(K:eU->Prop):Prop:=∀ρ0 h0 ast,kP ρ0 h0 st ast->jz P ro all l ast (λast'=>∃st',K st'/\st'.n=st.n/\kP ρ0 h0 st' ast')
section
variable {P:Program} {ro:Option Nat}
def aD.mono{c:Code}{st:eU}{Q Q':Ex->eU->Prop}(h:aD P ro c st Q)(hq:∀e x,Q e x->Q' e x):aD P ro c st Q':=
 λρ0 h0 ast hs=>(h ρ0 h0 ast hs).mono λ_ _ ⟨x,h1,h2⟩=>⟨x,hq _ _ h1,h2⟩
def aD.skip{st:eU}{Q:Ex->eU->Prop}(h:Q .normal st):aD P ro .skip st Q:=λ_ _ _ hs=>.skip ⟨st,h,rfl,hs⟩
def aD.label{l:Nat}{st:eU}{Q:Ex->eU->Prop}(h:Q .normal st):aD P ro (.label l) st Q:=λ_ _ _ hs=>.label ⟨st,h,rfl,hs⟩
def aD.exit{id:Nat}{st:eU}{Q:Ex->eU->Prop}(h:Q (.exit id) st):aD P ro (.exit id) st Q:=λ_ _ _ hs=>.exit ⟨st,h,rfl,hs⟩
def aD.ret{st:eU}{Q:Ex->eU->Prop}(h:Q .ret st):aD P ro .ret st Q:=λ_ _ _ hs=>.ret ⟨st,h,rfl,hs⟩
def eI(P:Program)(ro:Option Nat)(y:Code)(Q:Ex->eU->Prop):Ex->eU->Prop
 | .normal,st=>aD P ro y st Q
 | e,st=>Q e st
def aD.seq{x y:Code}{st:eU}{Q:Ex->eU->Prop}(h:aD P ro x st (eI P ro y Q)):aD P ro (.seq x y) st Q:=by
 intro ρ0 h0 ast hs;refine .seq ((h ρ0 h0 ast hs).mono ?_);rintro e a ⟨st',h1,h2,h3⟩
 cases e with
 | normal=>
  have:=h1 ρ0 h0 a h3;rw[h2] at this;exact this
 | _=>exact⟨st',h1,h2,h3⟩
def aD.cond{c:Operand}{x y:Code}{st:eU}{Q:Ex->eU->Prop}{b:Bool}(hc:fp st.f c=some (.a (.bool b)))(h1:b=true->aD P ro x st Q)(h2:b=false->aD P ro y st Q):aD P ro (.cond c x y) st Q:=by
 intro ρ0 h0 ast hs;obtain⟨a1,a2,θ,ρ,hR,hF⟩:=hs;rw[<-a1] at hF;obtain⟨a,ha,ka⟩:=bE hF hc;rw[VS] at ka;subst ka;refine .cond ha (λh=>h1 h ρ0 h0 ast ⟨a1,a2,θ,ρ,hR,by rw[<-a1];exact hF⟩) (λh=>h2 h ρ0 h0 ast ⟨a1,a2,θ,ρ,hR,by rw[<-a1];exact hF⟩)
variable{Q:Ex->eU->Prop}
def aD.yes{c:Operand}{x y:Code}{st:eU}(hc:fp st.f c=some (.a (.bool true)))(h1:aD P ro x st Q):aD P ro (.cond c x y) st Q:=.cond hc (λ_=>h1) f7
def aD.no{c:Operand}{x y:Code}{st:eU}(hc:fp st.f c=some (.a (.bool false)))(h1:aD P ro y st Q):aD P ro (.cond c x y) st Q:=.cond hc f7 (λ_=>h1)
def gK(id:Nat)(Q:Ex->eU->Prop):Ex->eU->Prop
 | .exit i,st=>if i=id then Q .normal st else Q (.exit i) st
 | e,st=>Q e st
def aD.block{id:Nat}{x:Code}{st:eU}{Q:Ex->eU->Prop}(h:aD P ro x st (gK id Q)):aD P ro (.block id x) st Q:=by
 intro ρ0 h0 ast hs;refine .block ((h ρ0 h0 ast hs).mono ?_);rintro e a ⟨st',h1,h2,h3⟩
 cases e with
 | exit i=>
  simp only[gK] at h1;simp only[QL];by_cases hi:i=id
  ·rw[t8 hi] at h1 ⊢;exact⟨st',h1,h2,h3⟩
  ·rw[ul hi] at h1 ⊢;exact⟨st',h1,h2,h3⟩
 | _=>exact⟨st',h1,h2,h3⟩
def Fg(st st':eU):Prop:=st'.n=st.n/\∀ρ0 h0 ast,kP ρ0 h0 st ast->kP ρ0 h0 st' ast
def Fg.trans{a b c:eU}(h1:Fg a b)(h2:Fg b c):Fg a c:=⟨h2.1.trans h1.1,λ_ _ _ h=>h2.2 _ _ _ (h1.2 _ _ _ h)⟩
def aD.fg{c:Code}{st st':eU}(hf:Fg st st')(h:aD P ro c st' Q):aD P ro c st Q:=by
 intro ρ0 h0 ast hs;have:=h ρ0 h0 ast (hf.2 _ _ _ hs);rw[hf.1] at this;exact this
def cQ(I:Nat->eU->Prop)(m:Nat)(Q:Ex->eU->Prop):Ex->eU->Prop
 | .normal,st=>∃k st',k<m/\Fg st st'/\I k st'
 | e,st=>Q e st
def aD.loop{x:Code}{st:eU}{Q:Ex->eU->Prop}(I:Nat->eU->Prop)(m:Nat){st0:eU}(hf:Fg st st0)(h0:I m st0)(hn:∀m st',I m st'->st'.n=st.n)(h:∀m st,I m st->aD P ro x st (cQ I m Q)):aD P ro (.loop x) st Q:=by
 intro ρ0 hh ast hs;refine .loop (λm a=>∃st',I m st'/\kP ρ0 hh st' a) m ⟨st0,h0,hf.2 _ _ _ hs⟩ ?_;rintro k a ⟨st1,hI,hst⟩;refine(h k st1 hI ρ0 hh a hst).mono ?_;rintro e a' ⟨st',h1,h2,h3⟩;have hn1:=hn _ _ hI
 cases e with
 | normal=>
  obtain⟨k',st2,hk,hfg,hI2⟩:=h1;exact⟨k',hk,st2,hI2,hfg.2 _ _ _ h3⟩
 | _=>exact⟨st',h1,h2.trans hn1,h3⟩
def cr(Q:Ex->eU->Prop):Ex->eU->Prop
 | .goto _,_=>False
 | e,st=>Q e st
def aD.scope{x:Code}{st:eU}{Q:Ex->eU->Prop}(h:aD P ro x st (cr Q)):aD P ro (.scope x) st Q:=by
 intro ρ0 h0 ast hs;refine .scope ((h ρ0 h0 ast hs).mono ?_);rintro e a ⟨st',h1,h2,h3⟩
 cases e with
 | goto l=>exact h1.elim
 | _=>exact⟨st',h1,h2,h3⟩
def aD.region{id:Nat}{ops:Array Oper}{st:eU}{Q:Ex->eU->Prop}(h:aJ P ro ops.toList ops.toList st (Q .normal)):aD P ro (.region id ops false) st Q:=by
 intro ρ0 h0 ast hs;obtain⟨f,n,hh,ds⟩:=ast;refine .region ?_;have:=h ρ0 h0 _ hs;intro ops i h1 h2 F n σ a w Q' h3 h4 h5;exact this ops i h1 h2 F n σ a w Q' h3 h4 λst' a' w' σ' h6=>h5 st' a' w' σ' (by obtain⟨x,k1,k2,k3⟩:=h6;exact⟨x,k1,k2,k3⟩)
def wZ(ops:List Oper)(f:Fm)(n:Nat)(o:Oper):Option Bool:=match o.guard with
 | none=>some true
 | some (j,want)=>match (ops[j]?).bind (·.dst) with
  | some d=>_root_.cond (blt d n) (match aP f d with
   | .a (.bool b)=>some (b==want)
   | .a (.bB [])=>some false
   | _=>none) none
  | none=>none
variable{f:Fm}{af:Nat->AV}{n:Nat}{wv:Nat->AV}
def cE{θ:Nat->Loc}{ρ:lD}{ops:List Oper}(hF:FR θ ρ (aP f) af n wv){o:Oper}{b:Bool}(h:wZ ops f n o=some b):lC ops af n o=some b:=by
 unfold wZ at h;unfold lC;split at h
 ·rename_i hg;rw[hg];exact h
 ·rename_i j want hg;rw[hg];simp only;split at h
  ·rename_i d hd;obtain⟨hlt,h2⟩:=aI h;have:=hF.v d;rw[t8 (fY hlt)] at this;rw[hd];simp only;rw[hlt,ah];split at h2
   ·rename_i hx;rw[hx,VS] at this;rw[this];exact h2
   ·rename_i hx;rw[hx,VS] at this;rw[this];exact h2
   ·cases h2
  ·cases h
def eD(all:List Oper)(n:Nat)(l:List Oper):Bool:=l.all λo=>yB o.dst n&&(match o.guard with
 | none=>true
 | some (j,_)=>match (all[j]?).bind (·.dst) with
  | some d=>blt d n
  | none=>false)
def KH(want:Bool):SV->Option Bool
 | .a (.bool b)=>some (_root_.cond want b (!b))
 | .a (.bB [])=>some false
 | _=>none
def cH(all:List Oper)(f:Fm)(g:Option (Nat×Bool)):Option Bool:=match g with
 | none=>some true
 | some (j,want)=>(all[j]?).bind λo=>o.dst.bind λd=>KH want (aP f d)
def dR{all:List Oper}{o:Oper}{l:List Oper}{b:Bool}(hs:eD all n (o::l)=true)(h:cH all f o.guard=some b):wZ all f n o=some b:=by
 unfold eD at hs;rw[cn,ac,ac] at hs;have hs2:=hs.1.2;unfold cH at h;unfold wZ
 cases hg:o.guard with
 | none=>rw[hg] at h;exact h
 | some q=>
  obtain⟨j,want⟩:=q;rw[hg] at h hs2;simp only at h hs2 ⊢;obtain⟨oj,hj,h⟩:=t6 h;obtain⟨d,hd,h⟩:=t6 h;rw[hj,m7,hd] at hs2 ⊢;simp only at hs2 ⊢;rw[hs2,ah];unfold KH at h;split at h
  ·rename_i b' hb;cases want<;>cases b'<;>exact h
  ·exact h
  ·cases h
def eR{all:List Oper}{o:Oper}{l:List Oper}(hs:eD all n (o::l)=true):yB o.dst n=true/\eD all n l=true:=by
 unfold eD at hs ⊢;rw[cn,ac,ac] at hs;exact⟨hs.1.1,hs.2⟩
def qE(P:Program)(all:List Oper):List Oper->Fm->List SO->List Oper×Fm×List SO
 | [],f,S=>([],f,S)
 | o::l,f,S=>match cH all f o.guard with
  | some true=>match dY P f S o.op with
   | some q=>qE P all l (uw f q.2.2 o.dst q.1) q.2.1
   | none=>(o::l,f,S)
  | some false=>match o.dst with
   | some d=>qE P all l ((d,.a kJ)::f) S
   | none=>(o::l,f,S)
  | none=>(o::l,f,S)
def aJ.nil{all:List Oper}{st:eU}{K:eU->Prop}(h:K st):aJ P ro all [] st K:=λ_ _ _ hs=>.nil ⟨st,h,rfl,hs⟩
variable{S:List SO}
def E3{op:Op}{q:SV×List SO×Option Nat}(h:dY P f S op=some q):tv op=true:=by
 cases op<;>first | rfl | (simp[dY] at h;done)
def aJ.run{all:List Oper}{ds:List jy}{n:Nat}{K:eU->Prop}:∀{l l':List Oper} {f f':Fm} {S S':List SO},eD all n l=true->qE P all l f S=(l',f',S')->aJ P ro all l' ⟨f',n,S',ds⟩ K->aJ P ro all l ⟨f,n,S,ds⟩ K
 | [],l',f,f',S,S',_,h,hk=>by
  simp only[qE,m8] at h;obtain⟨rfl,rfl,rfl⟩:=h;exact hk
 | o::l,l',f,f',S,S',hst,h,hk=>by
  have stop:(o::l,f,S)=(l',f',S')->aJ P ro all (o::l) ⟨f,n,S,ds⟩ K:=by
   intro e;simp only[m8] at e;obtain⟨rfl,rfl,rfl⟩:=e;exact hk
  obtain⟨hd,hst2⟩:=eR hst;unfold qE at h;split at h
  ·rename_i hw;have hw:=dR hst hw;split at h
   ·rename_i q hop;obtain⟨v,S1,kill⟩:=q;rintro ρ0 h0 ⟨af,n',hh,ds'⟩ ⟨rfl,rfl,θ,ρ,hR,hF⟩;obtain⟨rv,h',θ',e1,e2,e3,e4⟩:=Tp hR hF hop;refine .cons (cE hF hw) (.run (E3 hop) hd e1 ?_);intro x hx;rw[rc hx];refine aJ.run hst2 h hk ρ0 h0 _ ⟨rfl,rfl,θ',ρ,e2,?_⟩
    cases hdd:o.dst with
    | none=>exact hF.lT e4
    | some d=>rw[hdd] at hd;cases rv<;>exact hF.kill e4 (fY hd) e3
   ·exact stop h
  ·rename_i hw;have hw:=dR hst hw;split at h
   ·rename_i d hdst;rw[hdst] at hd;rintro ρ0 h0 ⟨af,n',hh,ds'⟩ ⟨rfl,rfl,θ,ρ,hR,hF⟩;refine .s hdst (cE hF hw) hd ?_;exact aJ.run hst2 h hk ρ0 h0 _ ⟨rfl,rfl,θ,ρ,hR,hF.put (fY hd) (by rw[VS])⟩
   ·exact stop h
  ·exact stop h
end
mutual
inductive Wk (S:List SO):SV->SV->Prop
 | any (v:SV):Wk S v .any
 | a (v:AV):Wk S (.a v) (.a v)
 | sl (n e:Nat) (cs:List SV):Wk S (.sl n e cs) (.sl n e cs)
 | im (ks:List AV) (vs:List SV):Wk S (.im ks vs) (.im ks vs)
 | ip (cs:List SV):Wk S (.ip cs) (.ip cs)
 | nil (e:Nat):Wk S (.a (.slice none 0 0 (some 0))) (.sl 0 e [])
 | ptr {o off:Nat} {cs ds:List SV}:S[o]?=some (.cells cs)->cS S (cs.drop off) ds->off<=cs.length->Wk S (.ptr o off) (.ip ds)
 | buf {o n e:Nat} {c:Option Nat} {cs ds:List SV}:S[o]?=some (.cells cs)->cS S (cs.take (n*e)) ds->n*e<=cs.length->Wk S (.buf o n e c) (.sl n e ds)
 | sub {o off n e:Nat} {c:Option Nat} {cs ds:List SV}:S[o]?=some (.cells cs)->cS S ((cs.drop off).take (n*e)) ds->off+n*e<=cs.length->Wk S (.sub o off n e c) (.sl n e ds)
 | e0 (e:Nat):Wk S (.e0 e) (.e0 e)
 | YB (e:Nat):Wk S (.e0 e) (.sl 0 e [])
 | map {o:Nat} {ks:List AV} {vs ws:List SV} {b:Option (List Nat×Nat)}:S[o]?=some (.map ks vs b)->cS S vs ws->Wk S (.map o) (.im ks ws)
 | ag {cs ds:List SV}:cS S cs ds->Wk S (.ag cs) (.ag ds)
 | bB {cs ds:List SV}:cS S cs ds->Wk S (.bB cs) (.bB ds)
 | fn {g:FuncId} {a b c d:List SV}:cS S a c->cS S b d->Wk S (.fn g a b) (.fn g c d)
 | iface {t:TypeId} {v w:SV}:Wk S v w->Wk S (.iface t v) (.iface t w)
inductive cS (S:List SO):List SV->List SV->Prop
 | nil:cS S [] []
 | cons {v w:SV} {vs ws:List SV}:Wk S v w->cS S vs ws->cS S (v::vs) (w::ws)
end
def qC(θ:Nat->Loc)(ρ:lD)(h:H)(S:List SO):lD:=λid=>match ρ id with
 | some ob=>some ob
 | none=>@ite _ (∃o so,S[o]?=some so/\so≠.gone/\(θ o).id=id) (Classical.propDecidable _) (h.aV.get id) none
section
variable {θ:Nat->Loc} {ρ ρ0:lD} {P:Program} {h0:En} {h:H} {S:List SO}
def sI{id:Nat}{ob:AO}(hi:ρ id=some ob):qC θ ρ h S id=some ob:=by unfold qC;rw[hi]
def wj(hR:RS θ ρ0 ρ h0 h S){o:Nat}{so:SO}(hS:S[o]?=some so)(hg:so≠.gone):qC θ ρ h S (θ o).id=h.aV.get (θ o).id:=by
 unfold qC
 cases hr:ρ (θ o).id with
 | some ob=>rw[(hR.row _ _ hr).2.1]
 | none=>simp only;rw[t8 ⟨o,so,hS,hg,rfl⟩]
mutual
def Wk.ok(hR:RS θ ρ0 ρ h0 h S):∀{v w:SV} {x:AV},Wk S v w->VS θ ρ v x->GS (qC θ ρ h S) w x
 | _,_,_,.any v,_=>by rw[GS];trivial
 | _,_,_,.a v,hv=>by rw[VS] at hv;rw[GS];exact hv
 | _,_,_,.sl n e cs,hv=>by rw[VS] at hv;exact hv.mono λ_ _ h=>sI h
 | _,_,_,.im ks vs,hv=>by rw[VS] at hv;exact hv.mono λ_ _ h=>sI h
 | _,_,_,.ip cs,hv=>by rw[VS] at hv;exact hv.mono λ_ _ h=>sI h
 | _,_,_,.nil e,hv=>by
  rw[VS] at hv;subst hv;rw[GS];exact .inl ⟨rfl,rfl,none,0,some 0,rfl,λ_=>rfl,λh=>t7 rfl h⟩
 | _,_,_,@Wk.ptr _ o off cs ds hS hw hle,hv=>by
  rw[VS] at hv;subst hv;obtain⟨_,aS,q1,q2,_⟩:=hR.obj o _ hS f7;rw[GS];refine⟨_,off,aS,aS.length-off,rfl,?_,?_,?_⟩
  ·unfold rE;rw[wj hR hS f7,q1]
  ·rw[q2.length];omega
  ·have:=cS.ok hR hw (q2.drop off);rw[d6 (by rw[cX];exact be _)];exact this
 | _,_,_,@Wk.buf _ o n e c cs ds hS hw hle,hv=>by
  rw[VS] at hv;subst hv;obtain⟨_,aS,q1,q2,_⟩:=hR.obj o _ hS f7;rw[GS];refine .inr ⟨_,0,c,aS,rfl,?_,by rw[q2.length];omega,?_⟩
  ·unfold rE;rw[wj hR hS f7,q1]
  ·rw[d3];exact cS.ok hR hw (q2.take _)
 | _,_,_,@Wk.sub _ o off n e c cs ds hS hw hle,hv=>by
  rw[VS] at hv;subst hv;obtain⟨_,aS,q1,q2,_⟩:=hR.obj o _ hS f7;rw[GS];refine .inr ⟨_,off,c,aS,rfl,?_,by rw[q2.length];omega,?_⟩
  ·unfold rE;rw[wj hR hS f7,q1]
  ·exact cS.ok hR hw ((q2.drop off).take _)
 | _,_,_,.e0 e,hv=>by rw[VS] at hv;rw[GS];exact hv
 | _,_,_,.YB e,hv=>by
  rw[VS] at hv;obtain⟨o,e',rfl,ho⟩:=hv;rw[GS];exact .inl ⟨rfl,rfl,o,e',some 0,rfl,λ_=>rfl,ho⟩
 | _,_,_,@Wk.map _ o ks vs ws b hS hw,hv=>by
  rw[VS] at hv;subst hv;obtain⟨_,l,c,q1,q2,q3⟩:=hR.obj o _ hS f7;rw[GS];exact⟨_,l,c,rfl,by rw[wj hR hS f7,q1],⟨q2.1,q2.2.1,λp hp=>by cases hp⟩,cS.ok hR hw q3⟩
 | _,_,_,.ag hw,hv=>by rw[VS] at hv;obtain⟨aS,h1,h2⟩:=hv;rw[GS];exact⟨aS,h1,cS.ok hR hw h2⟩
 | _,_,_,.bB hw,hv=>by rw[VS] at hv;obtain⟨aS,h1,h2⟩:=hv;rw[GS];exact⟨aS,h1,cS.ok hR hw h2⟩
 | _,_,_,.fn hw1 hw2,hv=>by rw[VS] at hv;obtain⟨xs,ys,h1,h2,h3⟩:=hv;rw[GS];exact⟨xs,ys,h1,cS.ok hR hw1 h2,cS.ok hR hw2 h3⟩
 | _,_,_,.iface hw,hv=>by rw[VS] at hv;obtain⟨y,h1,h2⟩:=hv;rw[GS];exact⟨y,h1,Wk.ok hR hw h2⟩
def cS.ok(hR:RS θ ρ0 ρ h0 h S):∀{vs ws:List SV} {xs:List AV},cS S vs ws->df θ ρ vs xs->lF (qC θ ρ h S) ws xs
 | _,_,_,.nil,hv=>by rw[aU] at hv;rw[iB];exact hv
 | _,_,_,.cons h1 h2,hv=>by
  rw[aG] at hv;obtain⟨a,r,rfl,k1,k2⟩:=hv;rw[e7];exact⟨a,r,rfl,Wk.ok hR h1 k1,cS.ok hR h2 k2⟩
end
def RS.Gq(hR:RS θ ρ0 ρ h0 h S):RS θ ρ0 ρ h0 h []:=⟨hR.ok,hR.nx,hR.ob,hR.fm,hR.lw,hR.ln,λo so h=>by simp at h,λo o' so so' _ h=>by simp at h,λid ob hi=>⟨(hR.row id ob hi).1,(hR.row id ob hi).2.1,λo so h=>by simp at h⟩,hR.nO⟩
def Cl:qC θ ρ h []=ρ:=by
 funext id;unfold qC
 cases hr:ρ id with
 | some ob=>rfl
 | none=>simp only;rw[ul];rintro⟨o,so,h,_⟩;simp at h
def QN(ρ:lD)(h:H):Prop:=∀id ob,ρ id=some ob->id<h.next/\h.aV.get id=some ob
def Xu(h:H)(ρ ρ':lD)(h':H):Prop:=∀id ob,ρ' id=some ob->ρ id=some ob\/(h.next<=id/\id<h'.next/\h'.aV.get id=some ob)
def rD(hR:RS θ ρ0 ρ h0 h S):QN (qC θ ρ h S) h:=by
 intro id ob hi;unfold qC at hi
 cases hr:ρ id with
 | some ob'=>rw[hr] at hi;cases hi;exact⟨(hR.row id _ hr).1,(hR.row id _ hr).2.1⟩
 | none=>
  rw[hr] at hi;simp only at hi;split at hi
  ·rename_i hex;obtain⟨o,so,h1,h2,rfl⟩:=hex;obtain⟨⟨k1,k2,k3,_⟩,_⟩:=hR.obj o so h1 h2;exact⟨by rcases k1 with e | e<;>omega,hi⟩
  ·cases hi
def PC(P:Program)(g:FuncId)(args:List SV)(Q:SV->Prop):Prop:=∀ρ h avs,QN ρ h->lF ρ args avs->
 dK P (.func g) avs h (λv h'=>∃r ρ',Q r/\Over h.next h h'/\Xu h ρ ρ' h'/\GS ρ' r v)
mutual
def yG:SV->Bool
 | .any=>true
 | .a _=>true
 | .ag cs=>Li cs
 | .bB cs=>Li cs
 | _=>false
def Li:List SV->Bool
 | []=>true
 | d::ds=>yG d&&Li ds
end
mutual
def GS.flat{ρ':lD}:∀{r:SV} {x:AV},yG r=true->GS ρ' r x->VS θ ρ r x
 | .any,_,_,_=>by rw[VS];trivial
 | .a v,x,_,hg=>by rw[GS] at hg;rw[VS];exact hg
 | .ag cs,x,hf,hg=>by rw[yG] at hf;rw[GS] at hg;obtain⟨aS,h1,h2⟩:=hg;rw[VS];exact⟨aS,h1,lF.flat hf h2⟩
 | .bB cs,x,hf,hg=>by rw[yG] at hf;rw[GS] at hg;obtain⟨aS,h1,h2⟩:=hg;rw[VS];exact⟨aS,h1,lF.flat hf h2⟩
 | .sl _ _ _,_,hf,_=>by simp[yG] at hf
 | .im _ _,_,hf,_=>by simp[yG] at hf
 | .ip _,_,hf,_=>by simp[yG] at hf
 | .ptr _ _,_,hf,_=>by simp[yG] at hf
 | .map _,_,hf,_=>by simp[yG] at hf
 | .buf _ _ _ _,_,hf,_=>by simp[yG] at hf
 | .sub _ _ _ _ _,_,hf,_=>by simp[yG] at hf
 | .e0 _,_,hf,_=>by simp[yG] at hf
 | .fn _ _ _,_,hf,_=>by simp[yG] at hf
 | .iface _ _,_,hf,_=>by simp[yG] at hf
def lF.flat{ρ':lD}:∀{rs:List SV} {xs:List AV},Li rs=true->lF ρ' rs xs->df θ ρ rs xs
 | [],xs,_,hg=>by rw[iB] at hg;rw[aU];exact hg
 | d::ds,xs,hf,hg=>by
  rw[Li,ac] at hf;rw[e7] at hg;obtain⟨a,r,rfl,h1,h2⟩:=hg;rw[aG];exact⟨a,r,rfl,GS.flat hf.1 h1,lF.flat hf.2 h2⟩
end
def jL(P:Program)(f:Fm)(c:Call):Option (FuncId×List SV):=match c.callee with
 | .value x=>match fp f x with
  | some (.fn g first cap)=>(pM f c.args.toList).map λxs=>(g,(first++xs)++cap)
  | _=>none
 | .invoke r name=>match fp f r with
  | some (.iface t v)=>(j7 P t name).bind λg=>(pM f c.args.toList).map λxs=>(g,v::xs)
  | _=>none
 | .builtin _=>none
variable{f:Fm}{af:Nat->AV}{n:Nat}{wv:Nat->AV}{vs:List SV}
def Bi(hF:FR θ ρ (aP f) af n wv){c:Call}{g:FuncId}(hc:jL P f c=some (g,vs)):∃xs cap,qW P (dy af n) c=some (.func g,xs,cap)/\df θ ρ vs (xs++cap):=by
 unfold jL at hc;unfold qW;split at hc
 ·rename_i x hx;rw[hx];simp only;split at hc
  ·rename_i g' first cap hv
   obtain⟨xs,hxs,e⟩:=aq hc;cases e;obtain⟨a,ha,ka⟩:=bE hF hv;rw[VS] at ka;obtain⟨fs,cs,rfl,k1,k2⟩:=ka;obtain⟨aS,hs,ks⟩:=mg hF hxs;rw[ha];simp only;rw[hs];exact⟨fs++aS,cs,rfl,(k1.app ks).app k2⟩
  ·cases hc
 ·rename_i r name hx;rw[hx];simp only;split at hc
  ·rename_i t v hv;obtain⟨g',hg,hc⟩:=t6 hc;obtain⟨xs,hxs,e⟩:=aq hc;cases e;obtain⟨a,ha,ka⟩:=bE hF hv;rw[VS] at ka;obtain⟨y,rfl,k1⟩:=ka;obtain⟨aS,hs,ks⟩:=mg hF hxs;rw[ha];simp only;rw[hg,m7,hs];refine⟨y::aS,[],rfl,?_⟩;rw[ei,aG];exact⟨y,aS,rfl,k1,ks⟩
  ·cases hc
 ·cases hc
def oG.mono{ρ':lD}{h':H}{L:Loc}{so:SO}(hx:oG θ ρ h L so)(hm:∀id ob,ρ id=some ob->ρ' id=some ob)(ho:h'.aV.get L.id=h.aV.get L.id)(hf:h'.dN.get L.bX=h.dN.get L.bX):oG θ ρ' h' L so:=by
 cases so with
 | cells cs=>obtain⟨aS,h1,h2,h3⟩:=hx;exact⟨aS,by rw[ho];exact h1,h2.mono hm,by rw[hf];exact h3⟩
 | map ks vs b=>obtain⟨l,c,h1,h2,h3⟩:=hx;exact⟨l,c,by rw[ho];exact h1,h2,h3.mono hm⟩
 | iter m bs c pos=>obtain⟨lE,h1,h2⟩:=hx;exact⟨lE,h1.mono hm,by rw[ho];exact h2⟩
 | qj ks vs bs c pos=>obtain⟨lE,l,h1,h2,h3,h4⟩:=hx;exact⟨lE,l,hm _ _ h1,h2,h3.mono hm,by rw[ho];exact h4⟩
 | gone=>trivial
 | loop c ls p f=>
  obtain⟨h1,h2,h3⟩:=hx;exact⟨h1,by rw[ho];exact h2,λi hi=>(h3 i hi).mono hm⟩
 | pT N=>exact⟨hx.1,by rw[ho];exact hx.2⟩
def JB(h:H)(ρ ρ':lD):lD:=λid=>if id<h.next then ρ id else ρ' id
def RS.call{ρ':lD}{h':H}(hR:RS θ ρ0 ρ h0 h S)(ho:Over h.next h h')(hn:Xu h ρ ρ' h'):RS θ ρ0 (JB h ρ ρ') h0 h' S/\(∀id ob,ρ id=some ob->JB h ρ ρ' id=some ob)/\∀id ob,ρ' id=some ob->JB h ρ ρ' id=some ob:=by
 have hold:∀id ob,ρ id=some ob->JB h ρ ρ' id=some ob:=by
  intro id ob hi;unfold JB;rw[t8 (hR.row id ob hi).1];exact hi
 have hlw:h'.low=h.low:=ho.low hR.ln;have hpr:∀j,h0.pr j->j<h.next:=λj hj=>ay (hR.ok.pr j hj) hR.nx;have hpf:∀j,h0.pf j->j<h.next:=λj hj=>ay (hR.ok.pf j hj) hR.nx;refine⟨⟨hR.ok,bk hR.nx ho.next,λj hj=>(ho.aV j (hpr j hj)).trans (hR.ob j hj),λj hj=>(ho.dN j (hpf j hj)).trans (hR.fm j hj),by rw[hlw];exact hR.lw,by rw[hlw];exact bk hR.ln ho.next,?_,hR.sep,?_,?_⟩,hold,?_⟩
 ·intro o so h1 h2;obtain⟨k,k2⟩:=hR.obj o so h1 h2;refine⟨k.mono ho.next,?_⟩
  have hid:(θ o).id<h.next:=by rcases k.e with e | e<;>rw[e];exact k.x.2;exact k.y.2
  exact k2.mono hold (ho.aV _ hid) (ho.dN _ k.f.2)
 ·intro id ob hi;unfold JB at hi;split at hi
  ·rename_i hlt;obtain⟨r1,r2,r3⟩:=hR.row id ob hi;exact⟨ay r1 ho.next,by rw[ho.aV id r1];exact r2,r3⟩
  ·rename_i hlt
   rcases hn id ob hi with e | ⟨e1,e2,e3⟩
   ·exact t7 (hR.row id ob e).1 hlt
   ·refine⟨e2,e3,λo so h1 h2=>?_⟩;obtain⟨k,_⟩:=hR.obj o so h1 h2;have:=k.x.2;have:=k.y.2;omega
 ·intro id ob hi;unfold JB at hi;split at hi
  ·exact hR.nO id ob hi
  ·exact .inr (λhj=>by have:=hpr id hj;omega)
 ·intro id ob hi;unfold JB;split
  ·rename_i hlt
   rcases hn id ob hi with e | ⟨e1,_⟩
   ·exact e
   ·omega
  ·exact hi
def FR.mono{ρ':lD}{f:Nat->SV}{af:Nat->AV}{n:Nat}{wv:Nat->AV}(hF:FR θ ρ f af n wv)(hm:∀id ob,ρ id=some ob->ρ' id=some ob):FR θ ρ' f af n wv:=⟨λi=>(hF.v i).mono hm,hF.u⟩
def aJ.call{ro:Option Nat}{all:List Oper}{o:Oper}{l:List Oper}{f:Fm}{n:Nat}{ds:List jy}{K:eU->Prop}{d:Nat}{c:Call}{g:FuncId}{vs ws:List SV}{Q:SV->Prop}(hop:o.op=.call c)(hdst:o.dst=some d)(hw:wZ all f n o=some true)(hdy:gG (.call c)=true)(hd:blt d n=true)
 (hc:jL P f c=some (g,vs)) (hq:PC P g ws Q) (hwk:cS S vs ws) (hfl:(∀r,Q r->yG r=true)\/cS [] vs ws) (hk:∀r,Q r->aJ P ro all l ⟨(d,r)::f,n,S,ds⟩ K):aJ P ro all (o::l) ⟨f,n,S,ds⟩ K:=by
 rintro ρ0 h0 ⟨af,n',h,ds'⟩ ⟨rfl,rfl,θ,ρ,hR,hF⟩;obtain⟨xs,cap,h1,h2⟩:=Bi hF hc
 rcases hfl with hfl | hfl
 ·refine .c hop hdst (cE hF hw) hdy hd h1 rfl (hq _ _ _ (rD hR) (hwk.ok hR h2)) ?_;rintro v h' ⟨r,ρ',k1,k2,k3,k4⟩;obtain⟨j1,j2,_⟩:=hR.call (ρ':=λ_=>none) k2 (λid ob hi=>by cases hi);exact hk r k1 ρ0 h0 _ ⟨rfl,rfl,θ,_,j1,(hF.mono j2).put (fY hd) (k4.flat (hfl r k1))⟩
 ·have:=hfl.ok hR.Gq h2;rw[Cl] at this;refine .c hop hdst (cE hF hw) hdy hd h1 rfl (hq _ _ _ (λid ob hi=>⟨(hR.row id ob hi).1,(hR.row id ob hi).2.1⟩) this) ?_;rintro v h' ⟨r,ρ',k1,k2,k3,k4⟩;obtain⟨j1,j2,j3⟩:=hR.call k2 k3;exact hk r k1 ρ0 h0 _ ⟨rfl,rfl,θ,_,j1,(hF.mono j2).put (fY hd) ((k4.mono j3).vs)⟩
end
def mr:Nat->List SV->Fm
 | _,[]=>[]
 | i,v::vs=>(i,v)::mr (i+1) vs
def vb:∀(vs:List SV) (i j:Nat),aP (mr i vs) j=if i<=j then (match vs[j-i]? with | some v=>v | none=>.any) else .any
 | [],i,j=>by simp[mr,aP]
 | v::vs,i,j=>by
  show(if i=j then v else aP (mr (i+1) vs) j)=_;rw[vb vs (i+1) j];by_cases h:i=j
  ·subst h;simp
  ·rw[ul h];by_cases h2:i<=j
   ·rw[t8 gt,t8 h2];obtain⟨k,hk⟩:∃k,j-i=k+1:=⟨j-i-1,by omega⟩;rw[hk,ap,show j-(i+1)=k by omega]
   ·rw[ul gt,ul h2]
def qB(P:Program)(f:Fm)(S:List SO):List ResultVar->Option (List SV)
 | []=>some []
 | .tmp i::l=>(fp f (.tmp i)).bind λv=>(qB P f S l).map λb=>v::b
 | .cell a t::l=>(fp f (.tmp a)).bind λx=>(BY P S t x).bind λv=>(qB P f S l).map λb=>v::b
def dA:List SV->SV
 | [v]=>v
 | vs=>.bB vs
def ue(P:Program)(fn:Func)(Q:SV->Prop):Ex->eU->Prop:=λe st=>lP e=true/\st.ds=[]/\∃vs r,qB P st.f st.S fn.results.toList=some vs/\Wk st.S (dA vs) r/\Q r
section
variable {P:Program}
def wg{θ:Nat->Loc}{ρ ρ0:lD}{h0:En}{h:H}{S:List SO}(hR:RS θ ρ0 ρ h0 h S){f:Fm}{af:Nat->AV}{n:Nat}{wv:Nat->AV}(hF:FR θ ρ (aP f) af n wv):∀{l:List ResultVar} {vs:List SV},qB P f S l=some vs->∃aS,(l.mapM λ
 | ResultVar.tmp i=>ev (dy af n) (.tmp i)
 | ResultVar.cell a tt=>match ev (dy af n) (.tmp a) with
  | some (.ptr (some (id,off)))=>h.load P tt id off
  | _=>none)=some aS/\df θ ρ vs aS
 | [],vs,hv=>by
  simp only[qB,n8] at hv;subst hv;exact⟨[],rfl,by rw[aU]⟩
 | .tmp i::l,vs,hv=>by
  rw[qB] at hv;obtain⟨v0,hv0,hv⟩:=t6 hv;obtain⟨b,hb,rfl⟩:=aq hv;obtain⟨aS,h1,h2⟩:=wg hR hF hb;obtain⟨a,ha,ka⟩:=bE hF (x:=.tmp i) hv0;refine⟨a::aS,?_,by rw[aG];exact⟨a,aS,rfl,ka,h2⟩⟩;rw[f8];simp only[ha,h1];rfl
 | .cell a t::l,vs,hv=>by
  rw[qB] at hv;obtain⟨v0,hv0,hv⟩:=t6 hv;obtain⟨v,hv1,hv⟩:=t6 hv;obtain⟨b,hb,rfl⟩:=aq hv;obtain⟨aS,h1,h2⟩:=wg hR hF hb;obtain⟨p,hp,kp⟩:=bE hF (x:=.tmp a) hv0;obtain⟨y,hy,ky⟩:=IN hR kp hv1;refine⟨y::aS,?_,by rw[aG];exact⟨y,aS,rfl,ky,h2⟩⟩;rw[f8];simp only[hp,h1];unfold Gb at hy;split at hy
  ·rename_i he;cases he;simp only[hy];rfl
  ·cases hy
def TM:List AV->AV
 | [v]=>v
 | vs=>.bB vs
variable{vs:List SV}
def N8{θ:Nat->Loc}{ρ:lD}{aS:List AV}(h:df θ ρ vs aS):VS θ ρ (dA vs) (TM aS):=by
 match vs,h with
 | [],h=>rw[aU] at h;subst h;simp only[dA];rw[VS];exact⟨[],rfl,by rw[aU]⟩
 | [v],h=>
  rw[aG] at h;obtain⟨a,r,rfl,h1,h2⟩:=h;rw[aU] at h2;subst h2;exact h1
 | v::w::vs,h=>
  have h':=h;rw[aG] at h;obtain⟨a,r,rfl,h1,h2⟩:=h;rw[aG] at h2;obtain⟨b,r2,rfl,h3,h4⟩:=h2;simp only[dA];rw[VS];exact⟨_,rfl,h'⟩
end
section
variable {θ:Nat->Loc} {ρ ρ0:lD} {P:Program} {h0:En} {h:H} {S S':List SO}
def uY(f:Fm):Fm->Prop
 | []=>True
 | (i,v)::l=>aP f i=v/\uY f l
def FB(S:List SO):List SO->Nat->Prop
 | [],_=>True
 | s::l,k=>(s=.gone\/S[k]?=some s)/\FB S l (k+1)
def FB.get:∀{l:List SO} {k:Nat},FB S l k->∀{o:Nat} {so:SO},l[o]?=some so->so≠.gone->S[k+o]?=some so
 | [],_,_,o,so,h,_=>by simp at h
 | s::l,k,hs,o,so,h,hg=>by
  obtain⟨h1,h2⟩:=hs
  cases o with
  | zero=>
   simp only[ax,n8] at h;subst h;exact h1.resolve_left hg
  | succ o=>
   simp only[ap] at h;have:=FB.get h2 h hg;rw[show k+(o+1)=k+1+o by omega];exact this
def RS.sub(hR:RS θ ρ0 ρ h0 h S)(hs:∀(o:Nat) (so:SO),S'[o]?=some so->so≠.gone->S[o]?=some so):RS θ ρ0 ρ h0 h S':=
 ⟨hR.ok,hR.nx,hR.ob,hR.fm,hR.lw,hR.ln,λo so h1 h2=>hR.obj o so (hs o so h1 h2) h2,λo o' so so' h h1 h2 h3 h4=>hR.sep o o' so so' h (hs o so h1 h2) h2 (hs o' so' h3 h4) h4,
  λid ob hi=>⟨(hR.row id ob hi).1,(hR.row id ob hi).2.1,λo so h1 h2=>(hR.row id ob hi).2.2 o so (hs o so h1 h2) h2⟩,hR.nO⟩
def uY.get{f:Fm}:∀{f':Fm},uY f f'->∀i,aP f' i=aP f i\/aP f' i=.any
 | [],_,i=>.inr rfl
 | (d,v)::l,h,i=>by
  obtain⟨h1,h2⟩:=h;show(if d=i then v else aP l i)=_\/(if d=i then v else aP l i)=_;by_cases e:d=i
  ·subst e;rw[t8 rfl];exact .inl h1.symm
  ·rw[ul e];exact uY.get h2 i
variable{f:Fm}{n:Nat}
def Fg.less{f':Fm}{ds:List jy}(hf:uY f f')(hs:FB S S' 0):Fg ⟨f,n,S,ds⟩ ⟨f',n,S',ds⟩:=by
 refine⟨rfl,?_⟩;rintro ρ0 h0 ⟨af,n',h,ds'⟩ ⟨rfl,rfl,θ,ρ,hR,hF⟩;refine⟨rfl,rfl,θ,ρ,hR.sub λo so h1 h2=>by have:=hs.get h1 h2;rw[bo] at this;exact this,λi=>?_,hF.u⟩
 rcases hf.get i with e | e
 ·rw[e];exact hF.v i
 ·rw[e,VS];trivial
def mK(o:Nat)(so:SO):List SO:=ch o .gone++[so]
def tC{o p:Nat}{so s:SO}(h:(mK o so)[p]?=some s)(hg:s≠.gone):p=o/\s=so:=by
 unfold mK at h;rw[cv] at h;split at h
 ·rename_i hl;rw[d9] at hl;rw[List.getElem?_replicate,t8 hl] at h;cases h;exact t7 rfl hg
 ·rename_i hl;rw[d9] at hl h
  have:p-o=0:=by
   apply Decidable.byContradiction;intro hn;rw[a7 (by simp;omega)] at h;cases h
  rw[this] at h;simp only[ax,n8] at h;exact⟨by omega,h.symm⟩
def A4(S:List SO)(f:Fm):Fm->Prop
 | []=>True
 | (i,v)::l=>(aP f i=v\/Wk S (aP f i) v)/\A4 S f l
def A4.get{f:Fm}:∀{f':Fm},A4 S f f'->∀i,aP f' i=aP f i\/Wk S (aP f i) (aP f' i)
 | [],_,i=>.inr (.any _)
 | (d,v)::l,h,i=>by
  obtain⟨h1,h2⟩:=h;show(if d=i then v else aP l i)=_\/Wk S _ (if d=i then v else aP l i);by_cases e:d=i
  ·subst e;rw[t8 rfl]
   rcases h1 with h1 | h1
   ·exact .inl h1.symm
   ·exact .inr h1
  ·rw[ul e];exact A4.get h2 i
def Fg.freeze{f':Fm}{ds:List jy}(o:Nat){so:SO}(hS:S[o]?=some so)(hg:so≠.gone)(hf:A4 (mK o so) f f'):Fg ⟨f,n,S,ds⟩ ⟨f',n,S.set o .gone,ds⟩:=by
 refine⟨rfl,?_⟩;rintro ρ0 h0 ⟨af,n',h,ds'⟩ ⟨rfl,rfl,θ,ρ,hR,hF⟩
 have hsub:∀(p:Nat) (s:SO),(mK o so)[p]?=some s->s≠.gone->S[p]?=some s:=by
  intro p s h1 h2;obtain⟨rfl,rfl⟩:=tC h1 h2;exact hS
 have hR1:=hR.sub hsub
 have hset:∀(p:Nat) (s:SO),(S.set o .gone)[p]?=some s->s≠.gone->S[p]?=some s/\p≠o:=by
  intro p s h1 h2;by_cases hp:p=o
  ·subst hp;rw[bd (aR hS)] at h1;cases h1;exact t7 rfl h2
  ·rw[bt (λe=>hp e.symm)] at h1;exact⟨h1,hp⟩
 have hR2:=hR.sub (S':=S.set o .gone) λp s h1 h2=>(hset p s h1 h2).1;have hm:∀id ob,ρ id=some ob->qC θ ρ h (mK o so) id=some ob:=λid ob hi=>sI hi
 have key:∀id ob,qC θ ρ h (mK o so) id=some ob->ρ id=some ob\/id=(θ o).id:=by
  intro id ob hi;unfold qC at hi
  cases hr:ρ id with
  | some ob'=>rw[hr] at hi;exact .inl hi
  | none=>
   rw[hr] at hi;simp only at hi;split at hi
   ·rename_i hex;obtain⟨p,s,q1,q2,rfl⟩:=hex;obtain⟨rfl,_⟩:=tC q1 q2;exact .inr rfl
   ·cases hi
 refine⟨rfl,rfl,θ,qC θ ρ h (mK o so),⟨hR2.ok,hR2.nx,hR2.ob,hR2.fm,hR2.lw,hR2.ln,?_,hR2.sep,?_,?_⟩,λi=>?_,hF.u⟩
 ·intro p s h1 h2;obtain⟨k,k2⟩:=hR2.obj p s h1 h2;exact⟨k,k2.mono hm rfl rfl⟩
 ·intro id ob hi;obtain⟨r1,r2⟩:=rD hR1 id ob hi;refine⟨r1,r2,λp s h1 h2=>?_⟩
  rcases key id ob hi with e | e
  ·exact(hR2.row id ob e).2.2 p s h1 h2
  ·subst e;obtain⟨g1,g2⟩:=hset p s h1 h2;have sp:=hR.sep p o s so g2 g1 h2 hS hg;obtain⟨k,_⟩:=hR.obj o so hS hg
   rcases k.e with e | e<;>rw[e]
   ·exact⟨sp.xx.symm,sp.yx.symm⟩
   ·exact⟨sp.xy.symm,sp.yy.symm⟩
 ·intro id ob hi
  rcases key id ob hi with e | e
  ·exact hR.nO id ob e
  ·subst e;obtain⟨k,_⟩:=hR.obj o so hS hg;exact .inr (by rcases k.e with e | e<;>rw[e];exact k.x.1;exact k.y.1)
 ·rcases hf.get i with e | e
  ·rw[e];exact(hF.v i).mono hm
  ·exact(e.ok hR1 (hF.v i)).vs
mutual
def ni:SV->Bool
 | .a _=>true
 | .sl _ _ _=>true
 | .im _ _=>true
 | .ip _=>true
 | .any=>true
 | .e0 _=>true
 | .ag cs=>cg cs
 | .bB cs=>cg cs
 | .fn _ a b=>cg a&&cg b
 | .iface _ v=>ni v
 | _=>false
def cg:List SV->Bool
 | []=>true
 | d::ds=>ni d&&cg ds
end
mutual
def Wk.refl:∀{v:SV},ni v=true->Wk S v v
 | .a v,_=>.a v
 | .sl n e cs,_=>.sl n e cs
 | .im ks vs,_=>.im ks vs
 | .ip cs,_=>.ip cs
 | .any,_=>.any _
 | .e0 e,_=>.e0 e
 | .sub _ _ _ _ _,h=>by simp[ni] at h
 | .ag cs,h=>.ag (cS.refl (by rw[ni] at h;exact h))
 | .bB cs,h=>.bB (cS.refl (by rw[ni] at h;exact h))
 | .fn g a b,h=>by rw[ni,ac] at h;exact .fn (cS.refl h.1) (cS.refl h.2)
 | .iface t v,h=>.iface (Wk.refl (by rw[ni] at h;exact h))
 | .ptr _ _,h=>by simp[ni] at h
 | .map _,h=>by simp[ni] at h
 | .buf _ _ _ _,h=>by simp[ni] at h
def cS.refl:∀{vs:List SV},cg vs=true->cS S vs vs
 | [],_=>.nil
 | d::ds,h=>by rw[cg,ac] at h;exact .cons (Wk.refl h.1) (cS.refl h.2)
end
def cS.app:∀{a b c d:List SV},cS S a c->cS S b d->cS S (a++b) (c++d)
 | _,_,_,_,.nil,h=>h
 | _,_,_,_,.cons h1 h2,h=>.cons h1 (cS.app h2 h)
end
end
end Go.Ev
namespace Go.Proofs
open Go.Ev
section
variable (P:Program) (t:Nat)
abbrev fS(n:Nat)(z:List AV):Prop:=KC P t=some (n,true)/\dE P t=some (.agg z)/\Ua P t=some none/\VE P t=none/\qV P t=true
abbrev fL(e n:Nat):Prop:=KC P t=some (1,false)/\dE P t=some (.slice none 0 0 (some 0))/\Lc P t=some (e,n)/\VE P t=none/\jw P t=.sl/\qV P t=true
abbrev fA(n k e s:Nat)(z:AV):Prop:=KC P t=some (n,true)/\dE P t=some (.agg (ch k z))/\VE P t=some (k,e,s)/\Ua P t=some (some s)/\jw P t=.other
abbrev fM(k e:Nat):Prop:=KC P t=some (1,false)/\dE P t=some (.map none)/\c9 P t=some (k,e)/\jw P t=.map
abbrev fT:Prop:=KC P t=some (1,false)/\dE P t=some (.str [])/\jw P t=.str/\qV P t=true
abbrev fI(k:IntKind):Prop:=KC P t=some (1,false)/\dE P t=some (.int k 0)/\qV P t=true/\jw P t=.other/\isInt P t=true
abbrev fB(z:AV):Prop:=KC P t=some (1,false)/\dE P t=some z/\qV P t=true
end
abbrev k0(P:Program)(t i a b c:Nat):Prop:=Lk P t i=some (a,b,c)
abbrev k1(P:Program)(t a b c:Nat):Prop:=k0 P t 0 a b c
abbrev k2(P:Program)(t a b c d e f:Nat):Prop:=k1 P t a b c/\k0 P t 1 d e f
abbrev k3(P:Program)(t a b c d e f g h i:Nat):Prop:=k2 P t a b c d e f/\k0 P t 2 g h i
abbrev k4(P:Program)(t a b c d e f g h i j k l:Nat):Prop:=k3 P t a b c d e f g h i/\k0 P t 3 j k l
abbrev k5(P:Program)(t a b c d e f g h i j k l m n o:Nat):Prop:=k4 P t a b c d e f g h i j k l/\k0 P t 4 m n o
abbrev k6(P:Program)(t a b c d e f g h i j k l m n o p q r:Nat):Prop:=k5 P t a b c d e f g h i j k l m n o/\k0 P t 5 p q r
abbrev k7(P:Program)(t a b c d e f g h i j k l m n o p q r s u v:Nat):Prop:=k6 P t a b c d e f g h i j k l m n o p q r/\k0 P t 6 s u v
abbrev k8(P:Program)(t a b c d e f g h i j k l m n o p q r s u v w x y:Nat):Prop:=k7 P t a b c d e f g h i j k l m n o p q r s u v/\k0 P t 7 w x y
abbrev k9(P:Program)(t a b c d e f g h i j k l m n o p q r s u v w x y z a1 b1:Nat):Prop:=k8 P t a b c d e f g h i j k l m n o p q r s u v w x y/\k0 P t 8 z a1 b1
abbrev ZE(P:Program)(t a b c d e f g h i j k l m n o p q r s u v w x y z a1 b1 c1 d1 e1:Nat):Prop:=k9 P t a b c d e f g h i j k l m n o p q r s u v w x y z a1 b1/\k0 P t 9 c1 d1 e1
abbrev ZF(P:Program)(t a b c d e f g h i j k l m n o p q r s u v w x y z a1 b1 c1 d1 e1 f1 g1 h1:Nat):Prop:=ZE P t a b c d e f g h i j k l m n o p q r s u v w x y z a1 b1 c1 d1 e1/\k0 P t 10 f1 g1 h1
abbrev o0(P:Program)(t:Nat):Prop:=KC P t=some (1,false)
abbrev o9(P:Program)(a b c d e f g h i j k l:Nat):Prop:=o0 P a/\o0 P b/\o0 P c/\o0 P d/\o0 P e/\o0 P f/\o0 P g/\o0 P h/\o0 P i/\o0 P j/\o0 P k/\o0 P l
abbrev s0(P:Program)(t:Nat):Prop:=fS P t 1 [.slice none 0 0 (some 0)]/\k1 P t 0 22 1
abbrev s1(P:Program)(t:Nat):Prop:=fS P t 3 [.int .i64 0,.int .i64 0,.slice none 0 0 (some 0)]/\k3 P t 0 3 1 1 3 1 2 25 1
abbrev s2(P:Program)(t:Nat):Prop:=fS P t 4 [.slice none 0 0 (some 0),.int .i64 0,.int .i64 0,.slice none 0 0 (some 0)]/\k2 P t 0 24 1 1 27 3
abbrev s3(P:Program)(t:Nat):Prop:=fS P t 2 [.slice none 0 0 (some 0),.bool false]/\k2 P t 0 35 1 1 4 1
abbrev s4(P:Program)(t:Nat):Prop:=fS P t 3 [.str [],.str [],.int .i64 0]/\k3 P t 0 9 1 1 9 1 2 3 1
abbrev s5(P:Program)(t:Nat):Prop:=fS P t 3 [.str [],.bool false,.slice none 0 0 (some 0)]/\k3 P t 0 9 1 1 4 1 2 50 1
abbrev s6(P:Program)(t:Nat):Prop:=fS P t 2 [.int .i64 0,.int .i64 0]/\k2 P t 0 3 1 1 3 1
abbrev s7(P:Program)(t:Nat):Prop:=fS P t 6 [.int .i64 0,.int .i64 0,.int .i64 0,.int .i64 0,.int .i64 0,.int .i64 0]/\k3 P t 0 54 2 2 54 2 4 54 2
abbrev s8(P:Program)(t:Nat):Prop:=fS P t 14 [.int .i64 0,.int .i64 0,.str [],.str [],.str [],.str [],.str [],.str [],.int .i64 0,.int .i64 0,.int .i64 0,.int .i64 0,.int .i64 0,.int .i64 0]/\k9 P t 0 3 1 1 3 1 2 9 1 3 9 1 4 9 1 5 9 1 6 9 1 7 9 1 8 56 6
abbrev s9(P:Program)(t:Nat):Prop:=fS P t 5 [.str [],.str [],.int .i64 0,.int .i64 0,.int .i64 0]/\k5 P t 0 9 1 1 9 1 2 3 1 3 3 1 4 3 1
abbrev Za(P:Program)(t:Nat):Prop:=fS P t 4 [.str [],.str [],.int .i64 0,.int .i64 0]/\k4 P t 0 9 1 1 9 1 2 3 1 3 3 1
abbrev Zb(P:Program)(t:Nat):Prop:=fS P t 14 [.str [],.str [],.str [],.str [],.int .i64 0,.int .i64 0,.bool false,.slice none 0 0 (some 0),.int .i64 0,.int .i64 0,.int .i64 0,.int .i64 0,.int .i64 0,.int .i64 0]/\k9 P t 0 9 1 1 9 1 2 9 1 3 9 1 4 3 1 5 3 1 6 4 1 7 71 1 8 73 6
abbrev Zc(P:Program)(t:Nat):Prop:=fS P t 1 [.slice none 0 0 (some 0)]/\k1 P t 0 76 1
abbrev Zd(P:Program)(t:Nat):Prop:=fS P t 2 [.str [],.int .i64 0]/\k2 P t 0 9 1 1 3 1
abbrev Xq(P:Program)(t:Nat):Prop:=fS P t 2 [.str [],.str []]/\k2 P t 0 9 1 1 9 1
abbrev Ze(P:Program)(t:Nat):Prop:=fS P t 3 [.str [],.slice none 0 0 (some 0),.int .i64 0]/\k3 P t 0 9 1 1 113 1 2 3 1
abbrev Zf(P:Program)(t:Nat):Prop:=fS P t 2 [.slice none 0 0 (some 0),.map none]/\k2 P t 0 76 1 1 103 1
abbrev Zg(P:Program)(t:Nat):Prop:=fS P t 6 [.int .i64 0,.int .i64 0,.int .i64 0,.int .i64 0,.int .i64 0,.int .i64 0]/\k1 P t 0 56 6
abbrev Zh(P:Program)(t:Nat):Prop:=fS P t 2 [.ie,.ie]/\k2 P t 0 129 1 1 203 1
abbrev Zi(P:Program)(t:Nat):Prop:=fS P t 1 [.ptr none]/\k1 P t 0 17 1
abbrev Zj(P:Program)(t:Nat):Prop:=fS P t 15 [.int .i64 0,.int .i64 0,.str [],.str [],.str [],.str [],.str [],.str [],.int .i64 0,.int .i64 0,.int .i64 0,.int .i64 0,.int .i64 0,.int .i64 0,.int .i64 0]/\k2 P t 0 58 14 14 3 1
abbrev Zk(P:Program)(t:Nat):Prop:=fS P t 4 [.ptr none,.ptr none,.ptr none,.str []]/\k4 P t 0 17 1 1 17 1 2 17 1 3 9 1
abbrev Zl(P:Program)(t:Nat):Prop:=fS P t 0 []/\k1 P t 0 338 0
abbrev Zm(P:Program)(t:Nat):Prop:=fS P t 11 [.int .u64 0,.int .u64 0,.int .u32 0,.int .u8 0,.int .u8 0,.int .u8 0,.int .u8 0,.ie,.ptr none,.int .i32 0,.int .i32 0]/\ZF P t 0 12 1 1 12 1 2 257 1 3 341 1 4 5 1 5 5 1 6 342 1 7 343 1 8 344 1 9 345 1 10 346 1
abbrev Zn(P:Program)(t:Nat):Prop:=fS P t 2 [.str [],.int .u8 0]/\k2 P t 0 9 1 1 342 1
abbrev Zo(P:Program):Prop:=s0 P 23/\s0 P 24/\s1 P 26/\s1 P 27/\s2 P 28/\s2 P 29/\s3 P 36/\s3 P 37/\s4 P 46/\s4 P 47/\s5 P 51/\s5 P 52/\s6 P 53/\s6 P 54/\s7 P 55/\s7 P 56/\s7 P 72/\s7 P 73/\s8 P 57/\s8 P 58/\s9 P 59/\s9 P 60/\Za P 61/\Za P 62
def TE:Zo ct:=by
 (repeat' apply b7)<;>(change _=_;kernel_rfl)
abbrev Zp(P:Program):Prop:=Zb P 74/\Zb P 75/\Zc P 77/\Zc P 78/\Zd P 87/\Zd P 88/\Xq P 97/\Xq P 98/\Xq P 175/\Xq P 176/\Xq P 224/\Xq P 225/\Ze P 137/\Ze P 138/\Zf P 160/\Zf P 161/\Zg P 183/\Zg P 184/\Zh P 209/\Zh P 210/\Zi P 253/\Zi P 254/\Zj P 308/\Zj P 309
def TG:Zp ct:=by
 (repeat' apply b7)<;>(change _=_;kernel_rfl)
abbrev Zq(P:Program):Prop:=Zk P 336/\Zk P 337/\Zl P 339/\Zl P 340/\Zm P 347/\Zm P 348/\Zn P 353/\Zn P 354/\o9 P 1 33 34 38 42 45 48 49 63 64 65 66/\o9 P 67 70 80 81 82 86 89 90 93 94 95 96/\o9 P 99 100 101 102 106 107 108 109 110 112 114 115/\o9 P 116 117 118 120 122 125 126 128 129 130 131 132/\o9 P 133 135 136 139 140 142 144 145 146 148 149 150/\o9 P 151 152 155 156 157 158 159 162 163 164 165 166/\o9 P 167 169 170 171 172 173 174 177 180 182 185 186/\o9 P 187 190 192 195 196 197 202 203 204 205 206 208/\o9 P 211 212 213 214 215 218 219 220 221 223 226 227/\o9 P 228 229 230 231 232 234 235 236 237 238 239 240/\o9 P 241 242 243 244 245 246 247 250 251 252 256 258/\o9 P 260 263 264 265 266 267 268 269 270 271 272 273/\o9 P 274 275 276 277 278 279 280 281 282 283 284 285/\o9 P 286 287 288 291 292 293 294 295 296 297 299 300/\o9 P 302 303 304 306 310 311 312 313 314 315 316 317/\o9 P 319 320 322 323 326 327 328 329 331 332 333 334
def TH:Zq ct:=by
 (repeat' apply b7)<;>(change _=_;kernel_rfl)
abbrev Zr(P:Program):Prop:=o9 P 335 343 350 352 352 352 352 352 352 352 352 352/\fI P 2 .i64/\fI P 3 .i64/\fB P 4 (.bool false)/\fI P 5 .u8/\fT P 9/\fI P 21 .i32/\fL P 22 52 3/\fL P 25 27 3/\fL P 30 60 5/\fL P 31 37 2/\fL P 32 62 4/\fL P 35 58 14/\fL P 39 47 3/\fI P 40 .i64/\fL P 43 3 1/\fL P 50 138 3/\fL P 68 88 2/\fL P 71 176 2/\fL P 76 75 14/\fM P 83 98 3/\fM P 84 98 3/\fL P 91 43 1/\fM P 103 9 3
def TI:Zr ct:=by
 (repeat' apply b7)<;>(change _=_;kernel_rfl)
abbrev Zs(P:Program):Prop:=fM P 104 9 3/\fL P 113 9 1/\fB P 119 (.ptr none)/\fM P 121 58 4/\fL P 123 104 1/\fL P 127 39 1/\fA P 134 256 256 5 1 (.int .u8 0)/\fM P 153 9 4/\fM P 179 9 9/\fL P 181 54 2/\fB P 188 (.ptr none)/\fA P 189 3 3 188 1 (.ptr none)/\fB P 191 (.ptr none)/\fL P 193 3 1/\fI P 199 .u64/\fI P 207 .u64/\fM P 217 9 215/\fM P 222 225 4/\fI P 248 .i64/\fA P 249 8 8 9 1 (.str [])/\fB P 255 (.ptr none)/\fI P 257 .u32/\fI P 259 .u64/\fI P 261 .i64
def TJ:Zs ct:=by
 (repeat' apply b7)<;>(change _=_;kernel_rfl)
abbrev Zt(P:Program):Prop:=fI P 289 .i64/\fL P 298 113 1/\fI P 301 .u64/\fB P 305 (.ptr none)/\fL P 307 309 15/\fI P 318 .u64/\fL P 321 248 1/\fB P 324 (.ptr none)/\fB P 330 (.ptr none)/\fA P 338 0 0 16 1 (.ptr none)/\fI P 341 .u8/\fI P 342 .u8/\fB P 344 (.ptr none)/\fI P 345 .i32/\fI P 346 .i32/\fI P 349 .i64
def TL:Zt ct:=by
 (repeat' apply b7)<;>(change _=_;kernel_rfl)
def az:Zo ct/\Zp ct/\Zq ct/\Zr ct/\Zs ct/\Zt ct:=⟨TE,TG,TH,TI,TJ,TL⟩
end Go.Proofs
namespace Go.Ev
variable{a:Prop}{b:Prop}
def y2(a1:a)(b1:b):a/\b:=⟨a1,b1⟩
variable{c:Prop}
def y3(a1:a)(b1:b)(c1:c):a/\b/\c:=⟨a1,b1,c1⟩
def y4{d:Prop}(a1:a)(b1:b)(c1:c)(d1:d):a/\b/\c/\d:=⟨a1,b1,c1,d1⟩
variable{e:Prop}
def y5{d:Prop}(a1:a)(b1:b)(c1:c)(d1:d)(e1:e):a/\b/\c/\d/\e:=⟨a1,b1,c1,d1,e1⟩
def y6{d f:Prop}(a1:a)(b1:b)(c1:c)(d1:d)(e1:e)(f1:f):a/\b/\c/\d/\e/\f:=⟨a1,b1,c1,d1,e1,f1⟩
def y7{d f g:Prop}(a1:a)(b1:b)(c1:c)(d1:d)(e1:e)(f1:f)(g1:g):a/\b/\c/\d/\e/\f/\g:=⟨a1,b1,c1,d1,e1,f1,g1⟩
def y8{d f g h:Prop}(a1:a)(b1:b)(c1:c)(d1:d)(e1:e)(f1:f)(g1:g)(h1:h):a/\b/\c/\d/\e/\f/\g/\h:=⟨a1,b1,c1,d1,e1,f1,g1,h1⟩
section
variable {P:Program} {f:Fm} {S:List SO} {o:Nat}
def lk(v:AV):names o (.a v)=false:=by rw[names];all_goals (intros;contradiction)
def I9(n e:Nat)(cs:List SV):names o (.sl n e cs)=false:=by rw[names];all_goals (intros;contradiction)
def I7(ks:List AV)(vs:List SV):names o (.im ks vs)=false:=by rw[names];all_goals (intros;contradiction)
def I8(cs:List SV):names o (.ip cs)=false:=by rw[names];all_goals (intros;contradiction)
def ED:names o .any=false:=by rw[names];all_goals (intros;contradiction)
def Uf(k:IntKind)(n:Int):db (.a (.int k n))=some [.a (.int k n)]:=rfl
def Ug(s:List Nat):db (.a (.str s))=some [.a (.str s)]:=rfl
def Ue(b:Bool):db (.a (.bool b))=some [.a (.bool b)]:=rfl
def OS(o:Option (Nat×Nat))(n e:Nat)(c:Option Nat):db (.a (.slice o n e c))=some [.a (.slice o n e c)]:=rfl
def Rj(n e:Nat)(cs:List SV):db (.sl n e cs)=some [.sl n e cs]:=rfl
def Rh(ks:List AV)(vs:List SV):db (.im ks vs)=some [.im ks vs]:=rfl
def Ri(cs:List SV):db (.ip cs)=some [.ip cs]:=rfl
def K6(o off:Nat):db (.ptr o off)=some [.ptr o off]:=rfl
def K5(o:Nat):db (.map o)=some [.map o]:=rfl
def I6(e:Nat):names o (.e0 e)=false:=by rw[names];all_goals (intros;contradiction)
def OX(o off n e:Nat)(c:Option Nat):db (.sub o off n e c)=some [.sub o off n e c]:=rfl
def Rf(e:Nat):db (.e0 e)=some [.e0 e]:=rfl
def OV(o n e:Nat)(c:Option Nat):db (.buf o n e c)=some [.buf o n e c]:=rfl
def OW(g:FuncId)(a b:List SV):db (.fn g a b)=some [.fn g a b]:=rfl
def Rg(t:TypeId)(v:SV):db (.iface t v)=some [.iface t v]:=rfl
def U2(n e:Nat)(cs:List SV):fw (.sl n e cs)=true:=rfl
def UZ(ks:List AV)(vs:List SV):fw (.im ks vs)=true:=rfl
def U0(cs:List SV):fw (.ip cs)=true:=rfl
def Ss(o off:Nat):fw (.ptr o off)=true:=rfl
def Sr(o:Nat):fw (.map o)=true:=rfl
def Su(o off n e:Nat)(c:Option Nat):fw (.sub o off n e c)=true:=rfl
def UW(e:Nat):fw (.e0 e)=true:=rfl
def Sq(o n e:Nat)(c:Option Nat):fw (.buf o n e c)=true:=rfl
def UX(g:FuncId)(a b:List SV):fw (.fn g a b)=true:=rfl
def UY(t:TypeId)(v:SV):fw (.iface t v)=true:=rfl
def WL(k:IntKind)(n:Int):lu (.int k n)=true:=rfl
def WM(s:List Nat):lu (.str s)=true:=rfl
def WK(b:Bool):lu (.bool b)=true:=rfl
def UU(o:Option (Nat×Nat))(n e:Nat)(c:Option Nat):lu (.slice o n e c)=true:=rfl
def X1(k:IntKind)(n:Int):C5 (.int k n)=.a (.int k n):=rfl
def X2(s:List Nat):C5 (.str s)=.a (.str s):=rfl
def X0(b:Bool):C5 (.bool b)=.a (.bool b):=rfl
def W0(o:Option (Nat×Nat))(n e:Nat)(c:Option Nat):C5 (.slice o n e c)=.a (.slice o n e c):=rfl
def Vr(o:Option (Nat×Nat)):C5 (.ptr o)=.a (.ptr o):=rfl
def Vq(o:Option Nat):C5 (.map o)=.a (.map o):=rfl
def WZ:C5 .ie=.a .ie:=rfl
def aY(v w:SV)(l:List SV):dA (v::w::l)=.bB (v::w::l):=rfl
def WX(x:Operand)(aS:Array Operand)(ats:Array TypeId):dY P f S (.call { callee:=.value x,args:=aS,argTypes:=ats })=none:=rfl
def WW(x:Operand)(m:String)(aS:Array Operand)(ats:Array TypeId):dY P f S (.call { callee:=.invoke x m,args:=aS,argTypes:=ats })=none:=rfl
def od(k:IntKind)(n:Nat):dx (.int k (n:Int))=some n:=rfl
def PM(k:IntKind)(n:Nat):dx (.int k (OfNat.ofNat n))=some n:=rfl
def OT(cs:List AV):(AV.agg cs).cells=cs:=rfl
def YQ:=y8 @qE.eq_1 @qE.eq_2 @dY.eq_1 @dY.eq_2 @dY.eq_3 @dY.eq_4 @dY.eq_5 (y8 @dY.eq_6 @dY.eq_7 @dY.eq_8 @dY.eq_9 @dY.eq_10 @dY.eq_11 @dY.eq_12 (y8 @dY.eq_13 @dY.eq_14 @dY.eq_15 @dY.eq_16 @dY.eq_17 @dY.eq_18 @dY.eq_19 (y8 @dY.eq_20 @dY.eq_21 @dY.eq_22 @dY.eq_23 @dY.eq_24 @dY.eq_25 @dY.eq_26 (y8 @dY.eq_27 @BY.eq_1 @BY.eq_2 @vY.eq_1 @aP.eq_1 @aP.eq_2 @uw.eq_1 (y5 @uw.eq_2 @lT.eq_1 @lT.eq_2 @cH.eq_1 @cH.eq_2)))))
def YR:=y8 @KH.eq_1 @KH.eq_2 @fp.eq_1 @fp.eq_2 @fp.eq_3 @fp.eq_4 @pM.eq_1 (y8 @pM.eq_2 @mV.eq_1 @mV.eq_2 @Ap.eq_1 @Ap.eq_2 @vr.eq_1 @vr.eq_2 (y8 @FL.eq_1 @oN.eq_1 @cU.eq_1 @cU.eq_2 @cU.eq_3 @jM.eq_1 @jM.eq_2 (y8 @PN.eq_1 @Ah.eq_1 @Ah.eq_2 @Ah.eq_3 @BW.eq_1 @BW.eq_2 @BW.eq_3 (y8 @BW.eq_4 @BW.eq_5 @wx.eq_1 @wx.eq_2 @wx.eq_3 @eC.eq_1 @iX.eq_1 (y3 @Dj.eq_1 @Dj.eq_2 @iO.eq_1)))))
def YS:=y8 @iO.eq_2 @iO.eq_3 @iO.eq_4 @iO.eq_5 @N0.eq_1 @GX.eq_1 @cY.eq_1 (y8 @cY.eq_2 @cY.eq_3 @cY.eq_4 @cY.eq_5 @q7.eq_1 @Bw.eq_1 @rh.eq_1 (y8 @F0.eq_1 @ox.eq_1 @ox.eq_2 @ox.eq_3 @ox.eq_4 @cx.eq_1 @cx.eq_2 (y8 @cx.eq_3 @cx.eq_4 @cx.eq_5 @cx.eq_6 @cx.eq_7 @eg.eq_1 @qB.eq_1 (y8 @qB.eq_2 @qB.eq_3 @dA.eq_1 @jL.eq_1 @C5.eq_1 @db.eq_1 @db.eq_2 (y8 @db.eq_3 @fw.eq_1 @fw.eq_2 @fw.eq_3 @fw.eq_4 @names.eq_1 @names.eq_2 (y2 @names.eq_3 @names.eq_4))))))
def YT:=y8 @names.eq_5 @names.eq_6 @names.eq_7 @iW.eq_1 @iW.eq_2 @aW.eq_1 @uY.eq_1 (y8 @uY.eq_2 @FB.eq_1 @FB.eq_2 @mr.eq_1 @mr.eq_2 @lk @I9 (y8 @I7 @I8 @ED @OS @Uf @Ug @Ue (y8 @Rj @Rh @Ri @OV @Rg @U2 @UZ (y8 @U0 @Ss @Sr @Sq @UX @UY @WL (y5 @WM @WK @UU @X1 @X2)))))
def YU:=y8 @X0 @W0 @Vr @Vq @WZ @aY @WX (y8 @WW @od @K6 @K5 @OW @PM @OT (y8 @OU @W6 @Q4 @Q8 @Q7 @Q5 @Bg (y8 @Q6 (λ{P:Program} {t:TypeId} {a b:Int}=>@No P t a b _ Ei) (λ{P:Program} {t:TypeId} {a b:Int}=>@FH P t a b _ Ei) (λ{P:Program} {t:TypeId} {a b:Int}=>@Nn P t a b _ Ei) (λ{P:Program} {t:TypeId} {a b:Int}=>@Nl P t a b _ Ei) (λ{P:Program} {t:TypeId} {a b:Int}=>@FG P t a b _ Ei) (λ{P:Program} {t:TypeId} {a b:Int}=>@vc P t a b _ Ei) (y8 (λ{P:Program} {t:TypeId} {a b:Int}=>@No P t a b _ Pq) (λ{P:Program} {t:TypeId} {a b:Int}=>@FH P t a b _ Pq) (λ{P:Program} {t:TypeId} {a b:Int}=>@Nn P t a b _ Pq) (λ{P:Program} {t:TypeId} {a b:Int}=>@Nl P t a b _ Pq) (λ{P:Program} {t:TypeId} {a b:Int}=>@FG P t a b _ Pq) (λ{P:Program} {t:TypeId} {a b:Int}=>@vc P t a b _ Pq) @names.eq_8 (y8 @BW.eq_6 @BW.eq_7 @wx.eq_4 @wx.eq_5 @cY.eq_6 @cY.eq_7 @ox.eq_6 (y8 @ox.eq_8 @ox.eq_9 @ox.eq_10 @iO.eq_6 @iO.eq_7 @iO.eq_8 @QW.eq_1 (y8 @QW.eq_2 @QW.eq_3 @OK.eq_1 @OK.eq_2 @OK.eq_3 @OK.eq_4 @Nv.eq_1 (y8 @Rq.eq_1 @FO.eq_1 @Xg.eq_1 @Xg.eq_2 @K4.eq_1 @K4.eq_2 @K4.eq_3 (y8 @K4.eq_4 @I6 @OX @Rf @Su @UW @AD.eq_1 @AY.eq_1)))))))))
def cG:=y5 YQ YR YS YT YU
end
noncomputable section
def lS:Op->Bool
 | .move _ | .assign _ | .pick _ _ _ | .build _ _ | .nilCheck _ | .binOp _ _ _ _ _ | .unOp _ _ _ | .convert _ _ _ | .fieldAddr _ _ _ | .field _ _ _ | .indexAddr _ _ _ | .index _ _ _ | .extract _ _ | .load _ _ | .lookup _ _ _ _ | .slice _ _ _ _ _=>true
 | .makeFunc (.func _) _ _=>true
 | .makeFunc (.method _) _ _=>true
 | .call { callee:=.builtin .len,.. }=>true
 | _=>false
def Lu:Op->Bool
 | .load _ _ | .lookup _ _ _ _ | .call _ | .slice _ _ _ _ _=>true
 | _=>false
variable{P:Program}{f:Fm}{S:List SO}
def Tq{S':List SO}{op:Op}(hr:lS op=true){v:SV}{kill:Option Nat}(h:dY P f S op=some (v,S',kill)):S'=S/\kill=none:=by
 cases op with
 | move x=>obtain⟨_,_,e⟩:=aq h;cases e;exact⟨rfl,rfl⟩
 | assign x=>obtain⟨_,_,e⟩:=aq h;cases e;exact⟨rfl,rfl⟩
 | pick c a b=>obtain⟨_,_,e⟩:=aq h;cases e;exact⟨rfl,rfl⟩
 | build tt ps=>obtain⟨_,_,h⟩:=t6 h;obtain⟨_,_,e⟩:=aq h;cases e;exact⟨rfl,rfl⟩
 | nilCheck x=>obtain⟨_,_,h⟩:=t6 h;obtain⟨_,_,e⟩:=aq h;cases e;exact⟨rfl,rfl⟩
 | binOp op xt x y yt=>
  obtain⟨_,_,h⟩:=t6 h;obtain⟨_,_,h⟩:=t6 h;obtain⟨_,_,h⟩:=t6 h;obtain⟨_,_,h⟩:=t6 h;obtain⟨_,_,e⟩:=aq h;cases e;exact⟨rfl,rfl⟩
 | unOp op xt x=>
  obtain⟨_,_,h⟩:=t6 h;obtain⟨_,_,h⟩:=t6 h;obtain⟨_,_,e⟩:=aq h;cases e;exact⟨rfl,rfl⟩
 | convert s d x=>
  obtain⟨_,_,h⟩:=t6 h;obtain⟨_,_,h⟩:=t6 h;obtain⟨_,_,e⟩:=aq h;cases e;exact⟨rfl,rfl⟩
 | fieldAddr s x fl=>obtain⟨_,_,h⟩:=t6 h;obtain⟨_,_,e⟩:=aq h;cases e;exact⟨rfl,rfl⟩
 | field s x fl=>obtain⟨_,_,h⟩:=t6 h;obtain⟨_,_,e⟩:=aq h;cases e;exact⟨rfl,rfl⟩
 | indexAddr s x i=>
  obtain⟨_,_,h⟩:=t6 h;obtain⟨_,_,h⟩:=t6 h;obtain⟨_,_,e⟩:=aq h;cases e;exact⟨rfl,rfl⟩
 | index s x i=>
  obtain⟨_,_,h⟩:=t6 h;obtain⟨_,_,h⟩:=t6 h;obtain⟨_,_,e⟩:=aq h;cases e;exact⟨rfl,rfl⟩
 | extract x i=>
  simp only[dY] at h;split at h
  ·obtain⟨_,_,e⟩:=aq h;cases e;exact⟨rfl,rfl⟩
  ·cases h
 | makeFunc g first cap=>
  cases g with
  | func g=>obtain⟨_,_,h⟩:=t6 h;obtain⟨_,_,e⟩:=aq h;cases e;exact⟨rfl,rfl⟩
  | method nm=>
   obtain⟨_,_,h⟩:=t6 h;obtain⟨_,_,h⟩:=t6 h;obtain⟨_,_,h⟩:=t6 h;obtain⟨_,_,e⟩:=aq h;cases e;exact⟨rfl,rfl⟩
  | _=>simp[lS] at hr
 | load tt a=>obtain⟨_,_,h⟩:=t6 h;obtain⟨_,_,e⟩:=aq h;cases e;exact⟨rfl,rfl⟩
 | lookup tt x k ok=>
  obtain⟨_,_,h⟩:=t6 h;obtain⟨_,_,h⟩:=t6 h;obtain⟨_,_,e⟩:=aq h;cases e;exact⟨rfl,rfl⟩
 | slice tt x lo hi mx=>
  obtain⟨_,_,h⟩:=t6 h;obtain⟨_,_,h⟩:=t6 h;obtain⟨_,_,h⟩:=t6 h;obtain⟨_,_,h⟩:=t6 h;obtain⟨_,_,e⟩:=aq h;cases e;exact⟨rfl,rfl⟩
 | call c=>
  obtain⟨callee,aS,ats⟩:=c
  cases callee with
  | builtin b=>
   cases b with
   | len=>
    obtain⟨_,_,h⟩:=t6 h;rename_i vs _
    cases hats:ats.toList with
    | nil=>rw[hats] at h;cases h
    | cons tt l=>
     rw[hats] at h
     cases vs with
     | nil=>cases h
     | cons x l'=>
      have h:(BW P S tt x).map (λ(n:Nat)=>((SV.a (.int .i64 (n:Int)),S,none):SV×List SO×Option Nat))=some (v,S',kill):=h;obtain⟨_,_,e⟩:=aq h;cases e;exact⟨rfl,rfl⟩
   | _=>simp[lS] at hr
  | _=>simp[lS] at hr
 | _=>simp[lS] at hr
section
variable {θ:Nat->Loc} {ρ ρ0:lD} {P:Program}
mutual
def Ir:∀{r:SV} {v:AV},cU r=some v->VS θ ρ r v
 | .a w,v,h=>by rw[cU] at h;cases h;rw[VS]
 | .ag cs,v,h=>by rw[cU] at h;obtain⟨aS,h1,rfl⟩:=aq h;rw[VS];exact⟨aS,rfl,vx h1⟩
 | .any,_,h=>by simp[cU] at h
 | .sl _ _ _,_,h=>by simp[cU] at h
 | .im _ _,_,h=>by simp[cU] at h
 | .ip _,_,h=>by simp[cU] at h
 | .ptr _ _,_,h=>by simp[cU] at h
 | .map _,_,h=>by simp[cU] at h
 | .buf _ _ _ _,_,h=>by simp[cU] at h
 | .sub _ _ _ _ _,_,h=>by simp[cU] at h
 | .e0 _,_,h=>by simp[cU] at h
 | .bB _,_,h=>by simp[cU] at h
 | .fn _ _ _,_,h=>by simp[cU] at h
 | .iface t w,v,h=>by rw[cU] at h;obtain⟨a,h1,rfl⟩:=aq h;rw[VS];exact⟨a,rfl,Ir h1⟩
def vx:∀{rs:List SV} {vs:List AV},jM rs=some vs->df θ ρ rs vs
 | [],vs,h=>by rw[jM] at h;cases h;rw[aU]
 | d::ds,vs,h=>by
  rw[jM] at h;obtain⟨a,ha,h⟩:=t6 h;obtain⟨b,hb,rfl⟩:=aq h;rw[aG];exact⟨a,b,rfl,Ir ha,vx hb⟩
end
end
section
variable {P:Program} {ro:Option Nat} {Q:Ex->eU->Prop} {f f':Fm} {n:Nat} {S S':List SO} {ds:List jy}
variable{id:Nat}
def aD.Vc{ops:Array Oper}{l':List Oper}(hs:eD ops.toList n ops.toList=true)(h:qE P ops.toList ops.toList f S=(l',f',S'))(hk:aJ P ro ops.toList l' ⟨f',n,S',ds⟩ (Q .normal)):aD P ro (.region id ops false) ⟨f,n,S,ds⟩ Q:=.region (.run hs h hk)
def aD.r0{ops:Array Oper}(hs:eD ops.toList n ops.toList=true)(h:qE P ops.toList ops.toList f S=([],f',S'))(hk:Q .normal ⟨f',n,S',ds⟩):aD P ro (.region id ops false) ⟨f,n,S,ds⟩ Q:=.Vc hs h (.nil hk)
variable{all:List Oper}{l:List Oper}
def aJ.r0{K:eU->Prop}(hs:eD all n l=true)(h:qE P all l f S=([],f',S'))(hk:K ⟨f',n,S',ds⟩):aJ P ro all l ⟨f,n,S,ds⟩ K:=.run hs h (.nil hk)
variable{o:Oper}{d:Nat}{g:FuncId}{vs:List SV}{ws:List SV}
theorem aJ.k{K:eU->Prop}{c:Call}{r:SV}(hst:eD all n [o]=true)(hop:o.op=.call c)(hdst:o.dst=some d)(hw:cH all f o.guard=some true)(hdy:gG (.call c)=true)
 (hc:jL P f c=some (g,vs)) (hq:PC P g ws (·=r)) (hwk:cS S vs ws) (hfl:yG r=true\/cS [] vs ws) (hk:aJ P ro all l ⟨(d,r)::f,n,S,ds⟩ K):aJ P ro all (o::l) ⟨f,n,S,ds⟩ K:=by
 have hd:=(eR hst).1;rw[hdst] at hd;exact .call hop hdst (dR hst hw) hdy hd hc hq hwk (hfl.imp (λh r hr=>by rw[hr];exact h) id) (λr hr=>by rw[hr];exact hk)
end
def X3:(∀(a:SV) (l:List SV) (i:Nat),(a::l)[i+1]?=l[i]?)/\(∀(a:SV) (l:List SV),(a::l)[0]?=some a)/\(∀(a:AV) (l:List AV) (i:Nat),(a::l)[i+1]?=l[i]?)/\(∀(a:AV) (l:List AV),(a::l)[0]?=some a)/\(∀(a:SO) (l:List SO) (i:Nat),(a::l)[i+1]?=l[i]?)/\(∀(a:SO) (l:List SO),(a::l)[0]?=some a)/\(∀(a:Oper) (l:List Oper) (i:Nat),(a::l)[i+1]?=l[i]?)/\(∀(a:Oper) (l:List Oper),(a::l)[0]?=some a)/\(∀(a:SV) (l:List SV) (i:Nat),(a::l).drop (i+1)=l.drop i)/\(∀l:List SV,l.drop 0=l)/\(∀i:Nat,([]:List SV).drop i=[])/\(∀(i:Nat) (a:SV) (l:List SV),(a::l).take (i+1)=a::l.take i)/\(∀l:List SV,l.take 0=[])/\(∀i:Nat,([]:List SV).take i=[])/\(∀(p:SV->Bool) (a:SV) (l:List SV),(a::l).all p=(p a&&l.all p))/\(∀p:SV->Bool,([]:List SV).all p=true)/\(∀l:List SV,[]++l=l)/\(∀(a:SV) (l m:List SV),(a::l)++m=a::(l++m))/\(∀(a b:SV) (l:List SV),(a::l).set 0 b=b::l)/\(∀(a b:SV) (l:List SV) (i:Nat),(a::l).set (i+1) b=a::l.set i b)/\(∀l:List SO,[]++l=l)/\(∀(a:SO) (l m:List SO),(a::l)++m=a::(l++m))/\(∀(a b:SO) (l:List SO),(a::l).set 0 b=b::l)/\(∀(a b:SO) (l:List SO) (i:Nat),(a::l).set (i+1) b=a::l.set i b)/\(∀(a:SV) (l:List SV),(a::l).length=l.length+1)/\(([]:List SV).length=0)/\(∀(a:SO) (l:List SO),(a::l).length=l.length+1)/\(([]:List SO).length=0)/\(∀(a:AV) (l:List AV),(a::l).length=l.length+1)/\(([]:List AV).length=0):=by
 (repeat' apply b7)<;>intros<;>first | rfl | (simp;done) | (unfold r9;rfl)
def X4:(∀(f:AV->SV) (a:AV) (l:List AV),(a::l).map f=f a::l.map f)/\(∀f:AV->SV,([]:List AV).map f=[])/\(∀(f:SV->SV) (a:SV) (l:List SV),(a::l).map f=f a::l.map f)/\(∀f:SV->SV,([]:List SV).map f=[])/\(∀(f:SO->SO) (a:SO) (l:List SO),(a::l).map f=f a::l.map f)/\(∀f:SO->SO,([]:List SO).map f=[])/\(∀(f:(Nat×SV)->(Nat×SV)) (a:(Nat×SV)) (l:List (Nat×SV)),(a::l).map f=f a::l.map f)/\(∀f:(Nat×SV)->(Nat×SV),([]:List (Nat×SV)).map f=[])/\(∀l:List Oper,l.toArray.toList=l)/\(∀l:List Operand,l.toArray.toList=l)/\(∀l:List TypeId,l.toArray.toList=l)/\(∀l:List (Nat×Operand),l.toArray.toList=l)/\(∀l:List ResultVar,l.toArray.toList=l)/\(∀x y:SV,cond true x y=x)/\(∀x y:SV,cond false x y=y)/\(∀x y:Bool,cond true x y=x)/\(∀x y:Bool,cond false x y=y)/\(∀x y:Option (SV×List SO×Option Nat),cond true x y=x)/\(∀x y:Option (SV×List SO×Option Nat),cond false x y=y)/\(∀x y:Option SV,cond true x y=x)/\(∀x y:Option SV,cond false x y=y)/\(∀x y:Option (List SO),cond true x y=x)/\(∀x y:Option (List SO),cond false x y=y)/\(∀n:Nat,0+n=n)/\(∀n:Nat,n+0=n)/\(∀n:Nat,0*n=0)/\(∀b,(b||false)=b)/\(∀b,(false||b)=b)/\(∀b,(b||true)=true)/\(∀b,(true||b)=true):=by
 (repeat' apply b7)<;>intros<;>first | rfl | (simp;done) | (unfold r9;rfl)
def X5:(∀b,(b&&true)=b)/\(∀b,(true&&b)=b)/\(∀b,(b&&false)=false)/\(∀b,(false&&b)=false)/\((!true)=false)/\((!false)=true)/\(∀p:Prop,(p/\True)=p)/\(∀p:Prop,(True/\p)=p)/\((¬False)=True)/\((¬True)=False)/\(∀a b:Nat,(a≠b)=¬(a=b))/\(∀b:Bool,(b=b)=True)/\(∀n:Nat,(n=n)=True)/\((false=true)=False)/\((true=false)=False)/\(∀{α:Type} (p:Prop) [Decidable p] (x:Option α),r9 p x=if p then x else none):=by
 (repeat' apply b7)<;>intros<;>first | rfl | (simp;done) | (unfold r9;rfl)
def X6:(∀(k:IntKind) (n:Int),mM mQ (.int k n)=some (.int k n))/\(∀b,mM mQ (.bool b)=some (.bool b))/\(mM mQ (.pointer none)=some (.ptr none))/\(mM mQ (.slice none 0 0)=some (.slice none 0 0 (some 0)))/\(mM mQ (.map none)=some (.map none))/\(mM mQ .nilFunc=some .ie)/\(∀s,mM mQ (.string s)=some (.str (s.data.toList.map (·.toNat))))/\(∀l:List UInt8,l.toArray.toList=l)/\(∀(f:UInt8->Nat) (a:UInt8) (l:List UInt8),(a::l).map f=f a::l.map f)/\(∀f:UInt8->Nat,([]:List UInt8).map f=[])/\(∀h:Decidable False,@decide False h=false)/\(∀h:Decidable True,@decide True h=true):=by
 (repeat' apply b7)<;>intros<;>first | rfl | (simp;done)
def X7:(∀l:List (Nat×SV),[]++l=l)/\(∀(a:Nat×SV) (l m:List (Nat×SV)),(a::l)++m=a::(l++m))/\(∀z:List AV,rep z 0=[])/\(∀(z:List AV) (n:Nat),rep z (n+1)=z++rep z n)/\(∀l:List AV,[]++l=l)/\(∀(a:AV) (l m:List AV),(a::l)++m=a::(l++m))/\(∀s,(AV.str s).cells=[.str s])/\(∀k n,(AV.int k n).cells=[.int k n])/\(∀b,(AV.bool b).cells=[.bool b])/\(∀o n e c,(AV.slice o n e c).cells=[.slice o n e c])/\(∀o,(AV.ptr o).cells=[.ptr o])/\(∀o,(AV.map o).cells=[.map o])/\(AV.ie.cells=[.ie])/\(AV.An.cells=[.An]):=by
 (repeat' apply b7)<;>intros<;>first | rfl | (simp;done)
def bG:type_of% X3/\type_of% X4/\type_of% X5/\type_of% X6/\type_of% X7:=⟨X3,X4,X5,X6,X7⟩
def dU(k:Nat):((k+1:Nat):Int)=(k:Int)+1:=rfl
variable{B:Nat}
def rf{k l:Nat}(h1:k<l)(h2:l<=B)(hB:B<=9223372036854775807) : -9223372036854775808<=(k:Int)+1/\(k:Int)+1<=9223372036854775807:=⟨by omega,by omega⟩
variable{n:Nat}{vs:List SV}
def ue.of{fn:Func}{Q:SV->Prop}{e:Ex}{rs:List ResultVar}{r:SV}(he:lP e=true)(hr:fn.results.toList=rs)(h:qB P f S rs=some vs)(hw:Wk S (dA vs) r)(hq:Q r):ue P fn Q e ⟨f,n,S,[]⟩:=by
 subst hr;exact⟨he,rfl,vs,r,h,hw,hq⟩
abbrev ab(s:List Nat):SV:=.a (.str s)
abbrev aa(n:Int):SV:=.a (.int .i64 n)
abbrev au(b:Bool):SV:=.a (.bool b)
variable{α:Type}
def an(e:Nat)(l:List α)(enc:α->List SV):SV:=.sl l.length e (l.flatMap enc)
def aH{α:Type}{e:Nat}{enc:α->List SV}(he:∀x,(enc x).length=e):∀{l:List α} {i:Nat} {x:α},l[i]?=some x->((l.flatMap enc).drop (i*e)).take e=enc x
 | [],i,x,h=>by simp at h
 | a::l,0,x,h=>by
  simp only[ax,n8] at h;subst h;rw[co,d3,d4,List.take_append_of_le_length (by rw[he];exact be _),d6 (by rw[he];exact be _)]
 | a::l,i+1,x,h=>by
  simp only[ap] at h;have ih:=aH he h;rw[d4,gd,Nat.add_comm,<-bZ,show List.drop e (enc a++l.flatMap enc)=l.flatMap enc from by rw[List.drop_append_of_le_length (by rw[he];exact be _),ci (by rw[he];exact be _),ej]];exact ih
def kg(p:α->Bool)(l:List α):Int:=match l.findIdx? p with
 | some k=>(k:Int)
 | none => -1
def FY{p:α->Bool}{l:List α}{k:Nat}{x:α}(h1:l[k]?=some x)(h2:p x=true)(h3:∀(i:Nat) y,i<k->l[i]?=some y->p y=false):kg p l=(k:Int):=by
 have:l.findIdx? p=some k:=by
  rw[List.findIdx?_eq_some_iff_getElem];obtain⟨hlt,he⟩:=pp h1;refine⟨hlt,by rw[he];exact h2,λj hj=>?_⟩;rw[h3 j _ hj (jp gt)];decide
 unfold kg;rw[this]
def xR{p:α->Bool}{l:List α}(h3:∀(i:Nat) y,i<l.length->l[i]?=some y->p y=false):kg p l = -1:=by
 have:l.findIdx? p=none:=by
  rw[List.findIdx?_eq_none_iff];intro x hx;obtain⟨i,hi⟩:=List.mem_iff_getElem?.1 hx;exact h3 i x (aR hi) hi
 unfold kg;rw[this]
def aw(c:α->SV)(x:α):List SV:=[c x]
variable{g:FuncId}{xs:List AV}
def PC.of{aS:List SV}{v:AV}(h:∀h,dK P (.func g) xs h (λa h'=>a=v/\h'=h))(hx:∀ρ avs,lF ρ aS avs->avs=xs):PC P g aS (·=.a v):=
 λρ hh avs h1 h2=>by
  have:=hx ρ avs h2;subst this;exact(h hh).mono λa h' ⟨e1,e2⟩=>⟨.a v,ρ,rfl,by rw[e2];exact .refl _ _,λid ob hi=>.inl hi,by rw[GS];exact e1⟩
def pN(e:Nat)(l:List α)(enc:α->List SV):an e l enc=.sl l.length e (l.flatMap enc):=rfl
section
variable {P:Program} {K U:Type} [DecidableEq K] {kv:K->AV} {uv:U->SV} {S:List SO} {t kt et:TypeId} {z:AV} {u0:U} {l:List (K×U)} {o:Nat} {x:SV} {k:K}
def bu(kv:K->AV)(uv:U->SV)(l:List (K×U)):SO:=.map (l.map λe=>kv e.1) (l.map λe=>uv e.2) none
abbrev pD(kv:K->AV)(uv:U->SV)(l:List (K×U)):SV:=.im (l.map λe=>kv e.1) (l.map λe=>uv e.2)
def nK(hk:Keys P kt kv)(k:K):∀(l:List (K×U)) (j:Nat),sj P kt (kv k) (l.map λe=>kv e.1) j=some (qz k l j)
 | [],_=>rfl
 | e::l,j=>by
  rw[bi,sj,hk.eq];by_cases h:k=e.1
  ·simp only[h,decide_true,qz,if_true]
  ·simp only[h,decide_false,qz,if_false];exact nK hk k l (j+1)
def vL(hm:c9 P t=some (kt,et))(hk:Keys P kt kv)(hz:dE P et=some z)(hu:C5 z=uv u0)(hS:Ah S x=some (l.map (λe=>kv e.1),l.map λe=>uv e.2)){y:SV}(hf:cU y=some (kv k))(ok:Bool):
 eJ P S t x y ok=some (_root_.cond ok (.bB [uv (getM u0 k l),au (cz k l)]) (uv (getM u0 k l))):=by
 unfold eJ;rw[hm,m7];simp only;rw[hf,m7,hk.ck,ah,hS,m7];simp only;rw[nK hk,m7]
 cases hp:qz k l 0 with
 | none=>
  have hn:=jt hp;simp only[hz,m6,qf hn,hn,hu]
 | some i=>
  obtain⟨_,u,h2,h3,_,h5⟩:=iw hp;rw[fu] at h2;simp only[a8,h2,m6,h3,h5]
def Eu(hm:c9 P t=some (kt,et))(hk:Keys P kt kv)(hz:dE P et=some z)(hu:C5 z=uv u0)(hS:S[o]?=some (bu kv uv l))(hf:cU x=some (kv k))(ok:Bool):
 eJ P S t (.map o) x ok=some (_root_.cond ok (.bB [uv (getM u0 k l),au (cz k l)]) (uv (getM u0 k l))):=
 vL hm hk hz hu (by simp only[Ah,hS,bu]) hf ok
def R8(hm:c9 P t=some (kt,et))(hk:Keys P kt kv)(hz:dE P et=some z)(hu:C5 z=uv u0)(hf:cU x=some (kv k))(ok:Bool):
 eJ P S t (pD kv uv l) x ok=some (_root_.cond ok (.bB [uv (getM u0 k l),au (cz k l)]) (uv (getM u0 k l))):=
 vL hm hk hz hu (by simp only[pD,Ah]) hf ok
def Jw(hm:c9 P t=some (kt,et))(hk:Keys P kt kv)(hS:S[o]?=some (bu kv uv l))(hf:cU x=some (kv k))(u:U):
 gn P S t (.map o) x (uv u)=some (S.set o (bu kv uv (bU k u l))):=by
 unfold gn;rw[hm,m7];simp only;rw[hf,m7,hk.ck,ah,hS];simp only[bu];rw[nK hk,m7]
 cases hp:qz k l 0 with
 | none=>
  have hn:=jt hp;simp only[mH hn,cj,bi,f0,Option.map_none]
 | some i=>
  obtain⟨_,u',h2,_,h4,_⟩:=iw hp;rw[fu] at h2;have h4:=h4 u;rw[fu] at h4;simp only[a8,h2,m6,m7,hk.st,ah,h4,List.map_set]
omit [DecidableEq K] in
def lU(h:∀u,names n (uv u)=false):cx n (bu kv uv l)=bu kv uv l:=by
 simp only[cx,bu,List.map_map]
 congr 1
 refine List.map_congr_left λe _=>?_;simp only[Function.comp,aW,h,ar]
omit [DecidableEq K] in
def fD(h:∀u,ni (uv u)=true):∀l:List (K×U),cg (l.map λe=>uv e.2)=true
 | []=>rfl
 | e::l=>by rw[bi,cg,h,dk];exact fD h l
omit [DecidableEq K] in
def pn(h:∀u,ni (uv u)=true)(hS:S[o]?=some (bu kv uv l)):Wk S (.map o) (pD kv uv l):=Wk.map hS (cS.refl (fD h l))
end
def RY{kt:TypeId}(h:P.underlying kt=some .string):Keys P kt AV.str where
 eq a b:=by unfold mL;rw[h];simp only[nT]
 ck a:=by unfold vI H7;rw[h]
 st a:=by unfold stays GD;simp only[nU,Bool.true_and];exact DZ _ _
def F5{n:Nat}{l:List (List Nat×Bool)}:cx n (bu AV.str au l)=bu AV.str au l:=lU λ_=>lk _
def WD{n:Nat}{l:List (List Nat×Int)}:cx n (bu AV.str aa l)=bu AV.str aa l:=lU λ_=>lk _
inductive Kd where
 | b
 | i (k:IntKind)
 | s
def QE:Kd->AV->Bool
 | .b,.bool _=>true
 | .i k,.int k' _=>BQ k k'
 | .s,.str _=>true
 | _,_=>false
def tP:List Kd->List AV->Bool
 | [],[]=>true
 | k::ks,x::xs=>QE k x&&tP ks xs
 | _,_=>false
def By(P:Program)(rec:TypeId->Option (List Kd)):List Field->Nat->Option (List Kd)
 | [],_=>some []
 | f::fs,off=>cond (!(f.name== "_")&&beq f.offset off) ((rec f.type).bind λks=>(By P rec fs (off+ks.length)).map λr=>ks++r) none
def flatK(P:Program):Nat->TypeId->Option (List Kd)
 | 0,_=>none
 | d+1,t=>match P.underlying t,KC P t with
  | some .bool,some (1,false)=>some [.b]
  | some (.int k),some (1,false)=>some [.i k]
  | some .string,some (1,false)=>some [.s]
  | some (.struct fs),some (n,true)=>cond (P.stoodInHeld t) none ((By P (flatK P d) fs.toList 0).bind λks=>cond (beq ks.length n) (some ks) none)
  | _,_=>none
def BR:∀{ks:List Kd} {xs:List AV},tP ks xs=true->xs.length=ks.length
 | [],[],_=>rfl
 | [],_::_,h=>by cases h
 | _::_,[],h=>by cases h
 | k::ks,x::xs,h=>by
  rw[tP,ac] at h;simp[BR h.2]
def uB:∀{k1 k2:List Kd} {xs:List AV},tP (k1++k2) xs=true->tP k1 (xs.take k1.length)=true/\tP k2 (xs.drop k1.length)=true
 | [],k2,xs,h=>⟨rfl,h⟩
 | k::k1,k2,[],h=>by cases h
 | k::k1,k2,x::xs,h=>by
  have h:(QE k x&&tP (k1++k2) xs)=true:=h;rw[ac] at h;obtain⟨h1,h2⟩:=uB h.2;exact⟨by show(QE k x&&tP k1 (xs.take k1.length))=true;rw[h.1,h1];rfl,h2⟩
def A8(e:AV->AV->Bool):∀(n:Nat) {xs ys:List AV},xs.length=ys.length->iM e xs ys=(iM e (xs.take n) (ys.take n)&&iM e (xs.drop n) (ys.drop n))
 | 0,xs,ys,_=>by rw[List.take_zero,List.take_zero];rfl
 | n+1,[],[],_=>rfl
 | n+1,x::xs,y::ys,h=>by
  have h:xs.length=ys.length:=by simpa using h
  show(e x y&&iM e xs ys)=((e x y&&iM e (xs.take n) (ys.take n))&&iM e (xs.drop n) (ys.drop n));rw[A8 e n h,Bool.and_assoc]
 | n+1,[],y::ys,h=>by simp at h
 | n+1,x::xs,[],h=>by simp at h
section
variable {P:Program}
def EqAt(P:Program)(d:Nat)(t:TypeId)(ks:List Kd):Prop:=
 (∃k,ks=[k]/\KC P t=some (1,false)/\∀x y,QE k x=true->QE k y=true->mL P d t x y=some (gN x y)/\H7 P d t x=true)\/
 (KC P t=some (ks.length,true)/\∀xs ys,tP ks xs=true->tP ks ys=true->mL P d t (.agg xs) (.agg ys)=some (iM gN xs ys)/\H7 P d t (.agg xs)=true)
def D2{d:Nat}(hrec:∀t ks,flatK P d t=some ks->EqAt P d t ks):∀{fs:List Field} {off:Nat} {ks:List Kd},By P (flatK P d) fs off=some ks->∀xs ys,xs.length=ys.length->off+ks.length=xs.length->tP ks (xs.drop off)=true->tP ks (ys.drop off)=true->
 eqFields P (mL P d) fs xs ys=some (iM gN (xs.drop off) (ys.drop off))/\pW P (H7 P d) fs xs=true
 | [],off,ks,h,xs,ys,hl,hle,h1,h2=>by
  simp only[By,n8] at h;subst h;have e1:xs.drop off=[]:=List.drop_of_length_le (by simp at hle;omega);have e2:ys.drop off=[]:=List.drop_of_length_le (by simp at hle;omega);rw[e1,e2];exact⟨rfl,rfl⟩
 | f::fs,off,ks,h,xs,ys,hl,hle,h1,h2=>by
  simp only[By] at h;obtain⟨hb,h⟩:=aI h;rw[Bool.and_eq_true] at hb;have hoff:=cZ hb.2
  have hnm:(f.name== "_")=false:=by have:=hb.1;cases hq:(f.name== "_");rfl;rw[hq] at this;cases this
  obtain⟨k1,hk1,h⟩:=t6 h;obtain⟨r,hr,rfl⟩:=aq h;obtain⟨a1,a2⟩:=uB h1;obtain⟨b1,b2⟩:=uB h2;rw[List.drop_drop] at a2 b2;rw[li] at hle;obtain⟨ih1,ih2⟩:=D2 hrec hr xs ys hl gt a2 b2;have hs:=A8 gN k1.length (xs:=xs.drop off) (ys:=ys.drop off) (by rw[List.length_drop,List.length_drop,hl]);rw[List.drop_drop,List.drop_drop] at hs
  have hpart:∃p q,fV P f.type xs f.offset=some p/\fV P f.type ys f.offset=some q/\mL P d f.type p q=some (iM gN ((xs.drop off).take k1.length) ((ys.drop off).take k1.length))/\H7 P d f.type p=true:=by
   rw[hoff]
   rcases hrec _ _ hk1 with⟨k,rfl,hz,hq⟩ | ⟨hz,hq⟩
   ·obtain⟨z1,z2⟩:=wV hz;simp only[i7,g9,Nat.zero_add] at hle a1 b1 ⊢;obtain⟨x,hx⟩:∃x,xs[off]?=some x:=⟨xs[off],jp gt⟩;obtain⟨y,hy⟩:∃y,ys[off]?=some y:=⟨ys[off],jp gt⟩
    have ex:(xs.drop off).take 1=[x]:=by rw[List.take_one,List.head?_drop,hx];rfl
    have ey:(ys.drop off).take 1=[y]:=by rw[List.take_one,List.head?_drop,hy];rfl
    rw[ex] at a1;rw[ey] at b1;simp only[tP,Bool.and_true] at a1 b1;obtain⟨q1,q2⟩:=hq x y a1 b1;refine⟨x,y,?_,?_,?_,q2⟩
    ·unfold fV;rw[z1];exact hx
    ·unfold fV;rw[z1];exact hy
    ·rw[ex,ey,q1];simp only[iM,Bool.and_true]
   ·obtain⟨z1,z2⟩:=wV hz;obtain⟨q1,q2⟩:=hq _ _ a1 b1;refine⟨_,_,?_,?_,q1,q2⟩
    ·unfold fV;rw[z1];simp only;rw[z2,m7,fH (by simp only;omega),ah]
    ·unfold fV;rw[z1];simp only;rw[z2,m7,fH (by simp only;omega),ah]
  obtain⟨p,q,g1,g2,g3,g4⟩:=hpart;refine⟨?_,?_⟩
  ·unfold eqFields;rw[hnm,ar,g1,g2];simp only;rw[g3,hs];cases iM gN ((xs.drop off).take k1.length) ((ys.drop off).take k1.length)
   ·rfl
   ·simp only[Bool.true_and];exact ih1
  ·unfold pW;rw[hnm,g1];simp only;rw[g4,ih2];rfl
def Bz:∀(d:Nat) (t:TypeId) (ks:List Kd),flatK P d t=some ks->EqAt P d t ks
 | 0,t,ks,h=>by simp[flatK] at h
 | d+1,t,ks,h=>by
  unfold flatK at h;split at h
  ·rename_i hu hz;cases h;refine .inl ⟨.b,rfl,hz,λx y hx hy=>?_⟩
   cases x<;>first | (simp[QE] at hx;done) | skip
   cases y<;>first | (simp[QE] at hy;done) | skip
   rename_i a b;constructor
   ·unfold mL;rw[hu];simp only[gN];cases a<;>cases b<;>rfl
   ·unfold H7;rw[hu]
  ·rename_i k hu hz;cases h;refine .inl ⟨.i k,rfl,hz,λx y hx hy=>?_⟩
   cases x<;>first | (simp[QE] at hx;done) | skip
   cases y<;>first | (simp[QE] at hy;done) | skip
   rename_i k1 a k2 b;simp only[QE] at hx hy
   have e1:k=k1:=by cases k<;>cases k1<;>first | rfl | cases hx
   have e2:k=k2:=by cases k<;>cases k2<;>first | rfl | cases hy
   subst e1;subst e2;constructor
   ·unfold mL;rw[hu];simp only[gN,hx,ah,Bool.true_and]
   ·unfold H7;rw[hu]
  ·rename_i hu hz;cases h;refine .inl ⟨.s,rfl,hz,λx y hx hy=>?_⟩
   cases x<;>first | (simp[QE] at hx;done) | skip
   cases y<;>first | (simp[QE] at hy;done) | skip
   constructor
   ·unfold mL;rw[hu];rfl
   ·unfold H7;rw[hu]
  ·rename_i fs n hu hz;cases hst:P.stoodInHeld t
   ·rw[hst,ar] at h;obtain⟨ks',hk,h⟩:=t6 h;obtain⟨hn,h⟩:=aI h;cases h;have hn:=cZ hn;subst hn;refine .inr ⟨hz,λxs ys hx hy=>?_⟩;have l1:=BR hx;have l2:=BR hy;obtain⟨r1,r2⟩:=D2 (Bz d) hk xs ys gt gt hx hy;constructor
    ·unfold mL;rw[hu];simp only;rw[hst,ar];exact r1
    ·unfold H7;rw[hu];exact r2
   ·rw[hst] at h;cases h
  ·cases h
def xW{K:Type}[DecidableEq K]{t:TypeId}{ks:List Kd}{cells:K->List AV}(hf:flatK P 4 t=some ks)(ha:(KC P t).map (·.2)=some true)(hk:∀a,tP ks (cells a)=true)(he:∀a b,iM gN (cells a) (cells b)=decide (a=b))(hfl:∀a,(cells a).all nU=true):Keys P t λa=>.agg (cells a):=by
 have key:∀a b,mL P 4 t (.agg (cells a)) (.agg (cells b))=some (decide (a=b))/\H7 P 4 t (.agg (cells a))=true:=by
  intro a b
  rcases Bz 4 t ks hf with⟨k,rfl,hz,_⟩ | ⟨_,hq⟩
  ·rw[hz] at ha;cases ha
  ·rw[<-he a b];exact hq _ _ (hk a) (hk b)
 refine⟨λa b=>(key a b).1,λa=>(key a a).2,λa=>?_⟩;unfold stays GD;show((cells a).all nU&&iQ 3 (.agg (cells a)) (.agg (cells a)))=true;rw[hfl a,dk];refine Pc _ _ ?_
 have:∀l:List AV,l.all nU=true->iM (iQ 2) l l=true:=by
  intro l
  induction l with
  | nil=>intro _;rfl
  | cons x l ih=>
   intro h;rw[cn,ac] at h;show(iQ 2 x x&&iM (iQ 2) l l)=true;rw[ih h.2,e6]
   cases x<;>first | (cases h.1;done) | exact Le _ _ | exact Pd _ _ _ | exact DZ _ _
 exact this _ (hfl a)
def HZ{t:TypeId}{ks:List Kd}{ys:List AV}{b:Bool}(hg:P.eqGuardType P.depth t=false)(hf:flatK P 8 t=some ks)(ha:(KC P t).map (·.2)=some true)(hx:tP ks xs=true)(hy:tP ks ys=true)(he:iM gN xs ys=b):cW P .eql t (.agg xs) (.agg ys)=some (.bool b):=by
 have:mL P 8 t (.agg xs) (.agg ys)=some b:=by
  rcases Bz 8 t ks hf with⟨k,rfl,hz,_⟩ | ⟨_,hq⟩
  ·rw[hz] at ha;cases ha
  ·rw[<-he];exact(hq _ _ hx hy).1
 show cond (P.eqGuardType P.depth t) none ((mL P 8 t (.agg xs) (.agg ys)).map AV.bool)=_;rw[hg,ar,this];rfl
end
mutual
def gF(r:Nat->Nat):SV->SV
 | .any=>.any
 | .a v=>.a v
 | .sl n e cs=>.sl n e cs
 | .im ks vs=>.im ks vs
 | .ip cs=>.ip cs
 | .ptr o off=>.ptr (r o) off
 | .map o=>.map (r o)
 | .buf o n e c=>.buf (r o) n e c
 | .sub o off n e c=>.sub (r o) off n e c
 | .e0 e=>.e0 e
 | .ag cs=>.ag (me r cs)
 | .bB cs=>.bB (me r cs)
 | .fn g a b=>.fn g (me r a) (me r b)
 | .iface t v=>.iface t (gF r v)
def me(r:Nat->Nat):List SV->List SV
 | []=>[]
 | d::ds=>gF r d::me r ds
end
def Ve(r:Nat->Nat):Fm->Fm
 | []=>[]
 | (d,v)::f=>(d,gF r v)::Ve r f
def oI(r:Nat->Nat):SO->SO
 | .cells cs=>.cells (me r cs)
 | .map ks vs b=>.map ks (me r vs) b
 | .iter m bs c pos=>.iter (gF r m) bs c pos
 | .qj ks vs bs c pos=>.qj ks vs bs c pos
 | .gone=>.gone
 | .loop c ls p f=>.loop c ls p (Ve r f)
 | .pT N=>.pT N
def kM(os:List Nat)(B i:Nat):Nat:=match os[i]? with
 | some o=>o
 | none=>B+(i-os.length)
mutual
def dT(B:Nat):SV->Bool
 | .ptr o _=>decide (o<B)
 | .map o=>decide (o<B)
 | .buf o _ _ _=>decide (o<B)
 | .sub o _ _ _ _=>decide (o<B)
 | .ag cs=>ia B cs
 | .bB cs=>ia B cs
 | .fn _ a b=>ia B a&&ia B b
 | .iface _ v=>dT B v
 | _=>true
def ia(B:Nat):List SV->Bool
 | []=>true
 | d::ds=>dT B d&&ia B ds
end
def FJ(B:Nat):Fm->Bool
 | []=>true
 | (_,v)::f=>dT B v&&FJ B f
def lG(B:Nat):SO->Bool
 | .cells cs=>ia B cs
 | .map _ vs _=>ia B vs
 | .iter m _ _ _=>dT B m
 | .qj _ _ _ _ _=>true
 | .gone=>true
 | .loop _ _ _ f=>FJ B f
 | .pT _=>true
def xp(B:Nat):List SO->Bool
 | []=>true
 | s::l=>lG B s&&xp B l
def oa:List Nat->SV->SV
 | [],v=>v
 | k::ks,v=>oa ks (aW k v)
def pG:List Nat->Fm->Fm
 | [],f=>f
 | k::ks,f=>pG ks (eg k f)
def kh:List Nat->List SO->List SO
 | [],S=>S
 | k::ks,S=>kh ks (eC k S)
def kI:List SO->List Nat->List SO->List SO
 | S,[],ss=>S++ss
 | S,o::os,s::ss=>kI (S.set o s) os ss
 | S,_::_,[]=>S
section
variable {θ θ':Nat->Loc} {ρ ρ0 ρ':lD} {P:Program} {h0:En} {h h1:H} {S S' S0:List SO}
mutual
def VS.rn(r:Nat->Nat):∀{v:SV} {x:AV},VS θ ρ (gF r v) x↔VS (λp=>θ (r p)) ρ v x
 | .any,_=>by rw[gF,VS,VS]
 | .a v,x=>by rw[gF,VS,VS]
 | .sl n e cs,x=>by rw[gF,VS,VS]
 | .im ks vs,x=>by rw[gF,VS,VS]
 | .ip cs,x=>by rw[gF,VS,VS]
 | .ptr p _,_=>by rw[gF,VS,VS]
 | .map p,_=>by rw[gF,VS,VS]
 | .buf p _ _ _,_=>by rw[gF,VS,VS]
 | .sub p _ _ _ _,_=>by rw[gF,VS,VS]
 | .e0 _,_=>by rw[gF,VS,VS]
 | .ag cs,x=>by rw[gF,VS,VS];exact exists_congr λ_=>and_congr_right λ_=>df.rn r
 | .bB cs,x=>by rw[gF,VS,VS];exact exists_congr λ_=>and_congr_right λ_=>df.rn r
 | .fn g f c,x=>by rw[gF,VS,VS];exact exists_congr λ_=>exists_congr λ_=>and_congr_right λ_=>and_congr (df.rn r) (df.rn r)
 | .iface t v,x=>by rw[gF,VS,VS];exact exists_congr λ_=>and_congr_right λ_=>VS.rn r
def df.rn(r:Nat->Nat):∀{ds:List SV} {aS:List AV},df θ ρ (me r ds) aS↔df (λp=>θ (r p)) ρ ds aS
 | [],aS=>by rw[me,aU,aU]
 | d::ds,aS=>by rw[me,aG,aG];exact exists_congr λ_=>exists_congr λ_=>and_congr_right λ_=>and_congr (VS.rn r) (df.rn r)
end
def AK(r:Nat->Nat):∀(f:Fm) (i:Nat),aP (Ve r f) i=gF r (aP f i)
 | [],i=>by rw[show aP [] i=.any from rfl,gF];rfl
 | (d,v)::f,i=>by
  show(if d=i then gF r v else aP (Ve r f) i)=gF r (if d=i then v else aP f i);rw[AK r f i];by_cases h:d=i
  ·rw[t8 h,t8 h]
  ·rw[ul h,ul h]
def H0{B:Nat}:∀{f:Fm} {i:Nat},FJ B f=true->dT B (aP f i)=true
 | [],i,_=>by rw[show aP ([]:Fm) i=.any from rfl];simp[dT]
 | (d,v)::f,i,h=>by
  rw[FJ,ac] at h;show dT B (if d=i then v else aP f i)=true;by_cases e:d=i
  ·rw[t8 e];exact h.1
  ·rw[ul e];exact H0 h.2
def oG.rn(r:Nat->Nat){L:Loc}{so:SO}:oG θ ρ h L (oI r so)↔oG (λp=>θ (r p)) ρ h L so:=by
 cases so with
 | cells cs=>exact exists_congr λ_=>and_congr_right λ_=>and_congr_left λ_=>df.rn r
 | map ks vs b=>exact exists_congr λ_=>exists_congr λ_=>and_congr_right λ_=>and_congr_right λ_=>df.rn r
 | iter m bs c pos=>exact exists_congr λ_=>and_congr_left λ_=>VS.rn r
 | qj ks vs bs c pos=>exact Iff.rfl
 | gone=>exact Iff.rfl
 | loop c ls p f=>exact and_congr_right λ_=>and_congr_right λ_=>forall_congr' λi=>forall_congr' λ_=>by rw[AK];exact VS.rn r
 | pT N=>exact Iff.rfl
variable{r:Nat->Nat}
def fW{so:SO}:oI r so≠.gone↔so≠.gone:=by
 cases so<;>simp[oI]
mutual
def VS.mO{B:Nat}(hθ:∀q,q<B->(θ' q).id=(θ q).id):∀{v:SV} {x:AV},dT B v=true->VS θ ρ v x->VS θ' ρ v x
 | .any,_,_,_=>by rw[VS];trivial
 | .a v,x,_,h=>by rw[VS] at h ⊢;exact h
 | .sl n e cs,x,_,h=>by rw[VS] at h ⊢;exact h
 | .im ks vs,x,_,h=>by rw[VS] at h ⊢;exact h
 | .ip cs,x,_,h=>by rw[VS] at h ⊢;exact h
 | .ptr p _,_,hn,h=>by rw[VS] at h ⊢;rw[dT] at hn;rw[hθ p (ww hn)];exact h
 | .map p,_,hn,h=>by rw[VS] at h ⊢;rw[dT] at hn;rw[hθ p (ww hn)];exact h
 | .buf p _ _ _,_,hn,h=>by rw[VS] at h ⊢;rw[dT] at hn;rw[hθ p (ww hn)];exact h
 | .sub p _ _ _ _,_,hn,h=>by rw[VS] at h ⊢;rw[dT] at hn;rw[hθ p (ww hn)];exact h
 | .e0 e,x,_,h=>by rw[VS] at h ⊢;exact h
 | .ag cs,x,hn,h=>by rw[VS] at h ⊢;rw[dT] at hn;obtain⟨aS,h1,h2⟩:=h;exact⟨aS,h1,df.mO hθ hn h2⟩
 | .bB cs,x,hn,h=>by rw[VS] at h ⊢;rw[dT] at hn;obtain⟨aS,h1,h2⟩:=h;exact⟨aS,h1,df.mO hθ hn h2⟩
 | .fn g f c,x,hn,h=>by
  rw[VS] at h ⊢;rw[dT,ac] at hn;obtain⟨xs,ys,h1,h2,h3⟩:=h;exact⟨xs,ys,h1,df.mO hθ hn.1 h2,df.mO hθ hn.2 h3⟩
 | .iface t v,x,hn,h=>by rw[VS] at h ⊢;rw[dT] at hn;obtain⟨y,h1,h2⟩:=h;exact⟨y,h1,VS.mO hθ hn h2⟩
def df.mO{B:Nat}(hθ:∀q,q<B->(θ' q).id=(θ q).id):∀{ds:List SV} {aS:List AV},ia B ds=true->df θ ρ ds aS->df θ' ρ ds aS
 | [],aS,_,h=>by rw[aU] at h ⊢;exact h
 | d::ds,aS,hn,h=>by
  rw[aG] at h ⊢;rw[ia,ac] at hn;obtain⟨a,r,h1,h2,h3⟩:=h;exact⟨a,r,h1,VS.mO hθ hn.1 h2,df.mO hθ hn.2 h3⟩
end
def oG.mO{B:Nat}(hθ:∀q,q<B->(θ' q).id=(θ q).id){L:Loc}{so:SO}(hn:lG B so=true)(hx:oG θ ρ h L so):oG θ' ρ h L so:=by
 cases so with
 | cells cs=>obtain⟨aS,h1,h2,h3⟩:=hx;exact⟨aS,h1,h2.mO hθ hn,h3⟩
 | map ks vs b=>obtain⟨l,c,h1,h2,h3⟩:=hx;exact⟨l,c,h1,h2,h3.mO hθ hn⟩
 | iter m bs c pos=>obtain⟨lE,h1,h2⟩:=hx;exact⟨lE,h1.mO hθ hn,h2⟩
 | qj ks vs bs c pos=>exact hx
 | gone=>trivial
 | loop c ls p f=>
  obtain⟨h1,h2,h3⟩:=hx;exact⟨h1,h2,λi hi=>(h3 i hi).mO hθ (H0 hn)⟩
 | pT N=>exact hx
def H2{B:Nat}:∀{S:List SO} {i:Nat} {so:SO},xp B S=true->S[i]?=some so->lG B so=true
 | [],i,so,_,h=>by simp at h
 | s::l,0,so,hb,h=>by rw[xp,ac] at hb;simp only[ax,n8] at h;subst h;exact hb.1
 | s::l,i+1,so,hb,h=>by rw[xp,ac] at hb;exact H2 hb.2 (by simpa using h)
def KE(θ:Nat->Loc):List Nat->(Nat->Loc)->Nat->Loc
 | [],_=>θ
 | k::ks,θ'=>KE (iH θ k (θ' k)) ks θ'
def A2:∀{ks:List Nat} {θ:Nat->Loc} {p:Nat},(p∈ks\/θ p=θ' p)->KE θ ks θ' p=θ' p
 | [],θ,p,h=>by rcases h with h | h;(· simp at h);(· exact h)
 | k::ks,θ,p,h=>by
  rw[KE];by_cases e:p=k
  ·subst e;exact A2 (.inr (cF _ _ _))
  ·rcases h with h | h
   ·rcases rt h with h | h
    ·exact t7 h e
    ·exact A2 (.inl h)
   ·exact A2 (.inr (by rw[bT _ _ e];exact h))
def KF:∀{ks:List Nat} {θ:Nat->Loc} {p:Nat},p∉ks->KE θ ks θ' p=θ p
 | [],θ,p,h=>rfl
 | k::ks,θ,p,h=>by
  rw[KE,KF (λe=>h (bc _ e)),bT _ _ (λe=>h (by rw[e];exact ba))]
def IH:∀{ks:List Nat} {θ:Nat->Loc} {v:SV} {x:AV},VS θ ρ v x->VS (KE θ ks θ') ρ (oa ks v) x
 | [],θ,v,x,h=>h
 | k::ks,θ,v,x,h=>by
  rw[KE,oa];exact IH (jO (θ':=iH θ k (θ' k)) (λp hp=>bT _ _ hp) h)
def Bu:∀(ks:List Nat) (f:Fm) (i:Nat),aP (pG ks f) i=oa ks (aP f i)
 | [],f,i=>rfl
 | k::ks,f,i=>by rw[pG,oa,Bu ks,jl]
def ki:∀(ks:List Nat) (S:List SO),(kh ks S).length=S.length
 | [],S=>rfl
 | k::ks,S=>by rw[kh,ki ks];unfold eC;rw[bh]
def PE{f g:SV->SV}(so:SO):uD f (uD g so)=uD (λv=>f (g v)) so:=by cases so<;>simp[uD]
def BT:∀(ks:List Nat) (S:List SO) (p:Nat),(kh ks S)[p]?=(S[p]?).map (uD (oa ks))
 | [],S,p=>by
  show S[p]?=_
  cases S[p]? with
  | none=>rfl
  | some s=>rw[m6];exact n9 some (vO s).symm
 | k::ks,S,p=>by
  rw[kh,BT ks,tj]
  cases S[p]? with
  | none=>rfl
  | some s=>simp only[m6,PE];rfl
def E5:∀{os:List Nat} {S ss:List SO} (p:Nat),os.Nodup->(∀o∈os,o<S.length)->os.length<=ss.length->
 (∀i:Nat,os[i]?=some p->(kI S os ss)[p]?=ss[i]?)/\(p∉os->p<S.length->(kI S os ss)[p]?=S[p]?)/\(S.length<=p->(kI S os ss)[p]?=ss[os.length+(p-S.length)]?)
 | [],S,ss,p,_,_,_=>by
  refine⟨λi h=>by simp at h,λ_ hl=>?_,λhl=>?_⟩
  ·rw[kI,dv hl]
  ·rw[kI,b0 hl,g9,bo]
 | o::os,S,[],p,_,_,hl=>by simp at hl
 | o::os,S,s::ss,p,hn,ho,hl=>by
  rw[List.nodup_cons] at hn;have ih:=E5 (os:=os) (S:=S.set o s) (ss:=ss) p hn.2 (λx hx=>by rw[f6];exact ho x (bc _ hx)) (by simpa using hl);have hol:=ho o ba;rw[f6] at ih;refine⟨λi h=>?_,λh1 h2=>?_,λh1=>?_⟩
  ·cases i with
   | zero=>
    simp only[ax,n8] at h;subst h;rw[kI,ih.2.1 hn.1 hol,bd hol];rfl
   | succ i=>
    simp only[ap] at h;rw[kI,ih.1 i h];rfl
  ·rw[kI,ih.2.1 (λe=>h1 (bc _ e)) h2,bt (λe=>h1 (by rw[e];exact ba))]
  ·rw[kI,ih.2.2 h1,i7,show os.length+1+(p-S.length)=os.length+(p-S.length)+1 by omega,ap]
def SC(P:Program)(g:FuncId)(args:List SV)(S0:List SO)(mv:List Nat)(Q:SV->List SO->Prop):Prop:=
 ∀(E:En) θ ρ h avs,E.h={ h with low:=h.next }->RS θ ρ ρ E E.h S0->df θ ρ args avs->
  dK P (.func g) avs h (λv h'=>∃r S' θ' ρ' h1,Q r S'/\h'={ h1 with low:=ic h.low h1.low }/\RS θ' ρ ρ' E h1 S'/\VS θ' ρ' r v/\S0.length<=S'.length/\∀i,i<S0.length->i∉mv->(θ' i).id=(θ i).id)
end
section
variable {θ θ':Nat->Loc} {ρ ρ0 ρ':lD} {P:Program} {h0:En} {h h1:H} {S S' S0:List SO}
def pS(K:Nat):Fm:=(el K).map λi=>(1000000+i,SV.ptr i 0)
def Io(g:Nat->SV):∀(l:List Nat) (j:Nat),aP (l.map λi=>(1000000+i,g i)) j=if j≥1000000/\(j-1000000)∈l then g (j-1000000) else .any
 | [],j=>by simp[aP]
 | i::l,j=>by
  show(if 1000000+i=j then g i else aP (l.map λi=>(1000000+i,g i)) j)=_;rw[Io g l j];by_cases h:1000000+i=j
  ·subst h;rw[t8 rfl,t8 ⟨by omega,by rw[cf];exact ba⟩,cf]
  ·rw[ul h];by_cases h2:j≥1000000/\(j-1000000)∈l
   ·rw[t8 h2,t8 ⟨h2.1,bc _ h2.2⟩]
   ·rw[ul h2,ul];rintro⟨h3,h4⟩
    rcases rt h4 with e | e
    ·omega
    ·exact h2 ⟨h3,e⟩
def vn:∀(f g:Fm) (j:Nat),(∀v,(j,v)∉f)->aP (f++g) j=aP g j
 | [],g,j,_=>rfl
 | (d,v)::f,g,j,h=>by
  show(if d=j then v else aP (f++g) j)=_;rw[ul (λe=>h v (by rw[e];exact ba)),vn f g j λw hw=>h w (bc _ hw)]
def xH:∀(f g:Fm) (j:Nat) {v:SV},(j,v)∈f->aP (f++g) j=aP f j
 | [],g,j,v,h=>by simp at h
 | (d,w)::f,g,j,v,h=>by
  show(if d=j then w else aP (f++g) j)=(if d=j then w else aP f j);by_cases e:d=j
  ·rw[t8 e,t8 e]
  ·rw[ul e,ul e]
   rcases rt h with h | h
   ·simp only[m8] at h;exact t7 h.1.symm e
   ·exact xH f g j h
def Bb:∀(vs:List SV) (i j:Nat),i<=j->j<i+vs.length->∃v,(j,v)∈mr i vs
 | [],i,j,h1,h2=>by simp at h2;omega
 | v::vs,i,j,h1,h2=>by
  by_cases e:i=j
  ·subst e;exact⟨v,ba⟩
  ·simp only[i7] at h2;obtain⟨w,hw⟩:=Bb vs (i+1) j gt gt;exact⟨w,bc _ hw⟩
def xm:∀(vs:List SV) (i j:Nat) (v:SV),i+vs.length<=j->(j,v)∉mr i vs
 | [],i,j,v,h=>by simp[mr]
 | w::vs,i,j,v,h=>by
  simp only[i7] at h;intro hm
  rcases rt hm with e | e
  ·simp only[m8] at e;omega
  ·exact xm vs (i+1) j v gt e
def QC(P:Program)(fn:Func)(K:Nat)(mv:List Nat)(Q:SV->List SO->Prop):Ex->eU->Prop:=λe st=>lP e=true/\st.ds=[]/\(∃vs,qB P st.f st.S fn.results.toList=some vs/\Q (dA vs) st.S)/\K<=st.S.length/\∀i,i<K->i∉mv->aP st.f (1000000+i)=.ptr i 0
variable{os:List Nat}{i:Nat}
def om{o:Nat}(h:os[i]?=some o):kM os B i=o:=by unfold kM;rw[h]
def pd(h:os.length<=i):kM os B i=B+(i-os.length):=by unfold kM;rw[List.getElem?_eq_none h]
def GI{j:Nat}(hn:os.Nodup)(hB:∀o∈os,o<B)(h:kM os B i=kM os B j):i=j:=by
 by_cases hi:i<os.length
 ·have e1:=om (B:=B) (jp hi);by_cases hj:j<os.length
  ·have e2:=om (B:=B) (jp hj);rw[e1,e2] at h;exact(List.getElem_inj hn).1 h
  ·have e2:=pd (B:=B) (a9 hj);rw[e1,e2] at h;have:=hB _ (d7 hi);omega
 ·have e1:=pd (B:=B) (a9 hi);by_cases hj:j<os.length
  ·have e2:=om (B:=B) (jp hj);rw[e1,e2] at h;have:=hB _ (d7 hj);omega
  ·have e2:=pd (B:=B) (a9 hj);rw[e1,e2] at h;omega
def ek(os mv:List Nat)(B J:Nat):List Nat:=mv.map (λi=>kM os B i)++(el J).map λj=>B+j
def gu(S:List SO)(os mv:List Nat)(S':List SO):List SO:=
 kI (kh (ek os mv S.length (S'.length-os.length)) S) os (S'.map (oI (kM os S.length)))
def Jc{p q:α->Prop}(h:¬∀x,p x->q x):∃x,p x/\¬q x:=by
 apply Classical.byContradiction;intro hn;exact h λx hp=>Classical.byContradiction λhq=>hn ⟨x,hp,hq⟩
def Rw(θ:Nat->Loc)(h0:En)(h:H)(S0:List SO):En where
 h:={ h with low:=h.next }
 pr:=λj=>j<h.next/\∀i so,S0[i]?=some so->so≠.gone->j≠(θ i).x/\j≠(θ i).y
 pf:=λj=>j<h.next/\∀i so,S0[i]?=some so->so≠.gone->j≠(θ i).bX
 lo:=h0.lo
 w:=λ_=>kJ
variable{r:Nat->Nat}
def RS.enter(hR:RS θ ρ0 ρ h0 h S)(hr:∀i so,S0[i]?=some so->S[r i]?=some (oI r so))(hi:∀i j,r i=r j->i=j):
 RS (λp=>θ (r p)) ρ ρ (Rw (λp=>θ (r p)) h0 h S0) { h with low:=h.next } S0:=by
 have hlo:h0.lo<=h.next:=bk hR.lw hR.ln;refine⟨⟨λj hj=>hj.1,λj hj=>hj.1,λj hj=>?_,hlo⟩,be _,λ_ _=>rfl,λ_ _=>rfl,hlo,be _,?_,?_,?_,λid ob h=>.inl h⟩
 ·show h0.lo<=j;by_cases hlt:j<h.next
  ·have:¬∀(q:Nat×SO),(S0[q.1]?=some q.2/\q.2≠.gone)->(j≠(θ (r q.1)).x/\j≠(θ (r q.1)).y):=λhall=>hj ⟨hlt,λi so h1 h2=>hall (i,so) ⟨h1,h2⟩⟩;obtain⟨⟨i,so⟩,⟨h1,h2⟩,h3⟩:=Jc this;obtain⟨k,_⟩:=hR.obj _ _ (hr i so h1) (fW.2 h2);by_cases hx:j=(θ (r i)).x
   ·rw[hx];exact hR.ok.lo _ k.x.1
   ·have:j=(θ (r i)).y:=Decidable.byContradiction λhy=>h3 ⟨hx,hy⟩;rw[this];exact hR.ok.lo _ k.y.1
  ·exact bk hlo (a9 hlt)
 ·intro i so h1 h2;obtain⟨k,k2⟩:=hR.obj _ _ (hr i so h1) (fW.2 h2);exact⟨⟨k.e,⟨λhp=>(hp.2 i so h1 h2).1 rfl,k.x.2⟩,⟨λhp=>(hp.2 i so h1 h2).2 rfl,k.y.2⟩,⟨λhp=>hp.2 i so h1 h2 rfl,k.f.2⟩⟩,(oG.rn r).1 k2⟩
 ·intro i j so so' hij h1 h2 h3 h4;exact hR.sep _ _ _ _ (λe=>hij (hi _ _ e)) (hr i so h1) (fW.2 h2) (hr j so' h3) (fW.2 h4)
 ·intro id ob h1;obtain⟨r1,r2,r3⟩:=hR.row id ob h1;exact⟨r1,r2,λi so h2 h3=>r3 _ _ (hr i so h2) (fW.2 h3)⟩
end
section
variable {θ θ':Nat->Loc} {ρ ρ0 ρ':lD} {P:Program} {h0:En} {h h1:H} {S S' S0:List SO}
def Vs(θ θ':Nat->Loc)(r:Nat->Nat)(J:Nat):Nat->Loc:=λp=>match (el J).find? λi=>beq (r i) p with
 | some i=>θ' i
 | none=>θ p
variable{r:Nat->Nat}{i:Nat}
def W1{J:Nat}(hi:∀i j,r i=r j->i=j)(h:i<J):Vs θ θ' r J (r i)=θ' i:=by
 unfold Vs
 cases hf:(el J).find? λj=>beq (r j) (r i) with
 | none=>
  have:=List.find?_eq_none.1 hf i (mem_range.2 h);simp at this
 | some j=>
  have:=List.find?_some hf;rw[hi j i (Nat.eq_of_beq_eq_true this)]
def Vt{J p:Nat}(h:∀i,i<J->r i≠p):Vs θ θ' r J p=θ p:=by
 unfold Vs;rw[List.find?_eq_none.2 λi hi=>by simpa using h i (mem_range.1 hi)]
def yg(ρ ρ':lD):lD:=λid=>match ρ id with
 | some ob=>some ob
 | none=>ρ' id
variable{id:Nat}
def JA{ob:AO}(h:ρ id=some ob):yg ρ ρ' id=some ob:=by unfold yg;rw[h]
variable{os:List Nat}{mv:List Nat}
def R5{low:Nat}(hR:RS θ ρ0 ρ h0 h S)(hr:∀(i:Nat) so,S0[i]?=some so->S[kM os S.length i]?=some (oI (kM os S.length) so))(hK:os.length=S0.length)(hnd:os.Nodup)(hos:∀o∈os,o<S.length)
 (hR':RS θ' ρ ρ' (Rw (λp=>θ (kM os S.length p)) h0 h S0) h1 S') (hl:S0.length<=S'.length) (hid:∀i,i<S0.length->i∉mv->(θ' i).id=(θ (kM os S.length i)).id) (hb:xp S'.length S'=true) (hlow:low=ic h.low h1.low):
 RS (Vs θ θ' (kM os S.length) S'.length) ρ0 (yg ρ ρ') h0 { h1 with low:=low } (gu S os mv S')/\
 (∀v x,VS θ ρ v x->VS (Vs θ θ' (kM os S.length) S'.length) (yg ρ ρ') (oa (ek os mv S.length (S'.length-os.length)) v) x)/\
 ∀v x,dT S'.length v=true->VS θ' ρ' v x->VS (Vs θ θ' (kM os S.length) S'.length) (yg ρ ρ') (gF (kM os S.length) v) x:=by
 have hi:∀i j,kM os S.length i=kM os S.length j->i=j:=λi j=>GI hnd hos;generalize hR0:kM os S.length=r at *;generalize hT:Vs θ θ' r S'.length=θt
 have hT1:∀i,i<S'.length->θt (r i)=θ' i:=λi h=>by rw[<-hT];exact W1 hi h
 have hT2:∀p,(∀i,i<S'.length->r i≠p)->θt p=θ p:=λp h=>by rw[<-hT];exact Vt h
 have hjn:∀i,r i<S.length↔i<S0.length:=by
  intro i;by_cases h:i<os.length
  ·have e:=om (B:=S.length) (jp h);rw[hR0] at e;rw[e];exact⟨λ_=>by omega,λ_=>hos _ (d7 h)⟩
  ·have e:=pd (B:=S.length) (a9 h);rw[hR0] at e;rw[e];exact⟨λ_=>by omega,λ_=>by omega⟩
 have hmem:∀p,p∈ek os mv S.length (S'.length-os.length)↔(∃i,i∈mv/\r i=p)\/∃i,S0.length<=i/\i<S'.length/\r i=p:=by
  intro p;unfold ek;rw[List.mem_append,mem_map,mem_map,hR0];refine or_congr Iff.rfl ⟨?_,?_⟩
  ·rintro⟨j,hj,rfl⟩;refine⟨os.length+j,by omega,by have:=mem_range.1 hj;omega,?_⟩;rw[<-hR0,pd gt];omega
  ·rintro⟨i,h1,h2,rfl⟩;refine⟨i-os.length,mem_range.2 gt,?_⟩;rw[<-hR0,pd gt]
 have hpr:∀j,h0.pr j->(Rw (λp=>θ (r p)) h0 h S0).pr j:=by
  intro j hj;refine⟨ay (hR.ok.pr j hj) hR.nx,λi so h1 h2=>?_⟩;obtain⟨k,_⟩:=hR.obj _ _ (hr i so h1) (fW.2 h2);exact⟨λe=>k.x.1 (e▸hj),λe=>k.y.1 (e▸hj)⟩
 have hpf:∀j,h0.pf j->(Rw (λp=>θ (r p)) h0 h S0).pf j:=by
  intro j hj;refine⟨ay (hR.ok.pf j hj) hR.nx,λi so h1 h2=>?_⟩;obtain⟨k,_⟩:=hR.obj _ _ (hr i so h1) (fW.2 h2);exact λe=>k.f.1 (e▸hj)
 have hlt:∀i so,S0[i]?=some so->i<S'.length:=λi so h=>ay (aR h) hl
 have hoth:∀p so,(∀i,i<S'.length->r i≠p)->S[p]?=some so->so≠.gone->
  (Rw (λp=>θ (r p)) h0 h S0).pr (θ p).x/\(Rw (λp=>θ (r p)) h0 h S0).pr (θ p).y/\(Rw (λp=>θ (r p)) h0 h S0).pf (θ p).bX:=by
  intro p so hp h1 h2;obtain⟨k,_⟩:=hR.obj p so h1 h2;have sp:=λi s (e1:S0[i]?=some s) (e2:s≠.gone)=>hR.sep p (r i) so _ (λe=>hp i (hlt i s e1) e.symm) h1 h2 (hr i s e1) (fW.2 e2);exact⟨⟨k.x.2,λi s e1 e2=>⟨(sp i s e1 e2).xx,(sp i s e1 e2).xy⟩⟩,⟨k.y.2,λi s e1 e2=>⟨(sp i s e1 e2).yx,(sp i s e1 e2).yy⟩⟩,⟨k.f.2,λi s e1 e2=>(sp i s e1 e2).f⟩⟩
 have hob:∀j,(Rw (λp=>θ (r p)) h0 h S0).pr j->h1.aV.get j=h.aV.get j:=λj hj=>hR'.ob j hj;have hfm:∀j,(Rw (λp=>θ (r p)) h0 h S0).pf j->h1.dN.get j=h.dN.get j:=λj hj=>hR'.fm j hj
 have hrow:∀id ob,ρ id=some ob->(Rw (λp=>θ (r p)) h0 h S0).pr id:=by
  intro id ob e;obtain⟨r1,_,r3⟩:=hR.row id ob e;exact⟨r1,λi s e1 e2=>r3 _ _ (hr i s e1) (fW.2 e2)⟩
 have hnew:∀id ob,ρ' id=some ob->yg ρ ρ' id=some ob:=by
  intro id ob e;unfold yg
  cases e2:ρ id with
  | none=>exact e
  | some ob2=>
   have a:=(hR'.row id ob e).2.1;rw[hob id (hrow id ob2 e2),(hR.row id ob2 e2).2.1] at a;exact a
 have hfr0:∀(ρx:lD) v x,VS θ ρx v x->VS θt ρx (oa (ek os mv S.length (S'.length-os.length)) v) x:=by
  intro ρx v x hv;refine VS.ids (θ:=KE θ (ek os mv S.length (S'.length-os.length)) θt) (λp=>?_) (IH hv);by_cases hp:p∈ek os mv S.length (S'.length-os.length)
  ·rw[A2 (.inl hp)]
  ·rw[KF hp];rw[hmem] at hp;by_cases him:∃i,i<S'.length/\r i=p
   ·obtain⟨i,e1,rfl⟩:=him;have e2:i<S0.length:=Nat.lt_of_not_le λe=>hp (.inr ⟨i,e,e1,rfl⟩);rw[hT1 i e1,hid i e2 (λe=>hp (.inl ⟨i,e,rfl⟩))]
   ·rw[hT2 p λi e1 e2=>him ⟨i,e1,e2⟩]
 have hfr:∀v x,VS θ ρ v x->VS θt (yg ρ ρ') (oa (ek os mv S.length (S'.length-os.length)) v) x:=λv x hv=>hfr0 _ _ _ (hv.mono λ_ _ e=>JA e);have hsets:=λp=>E5 (os:=os) (S:=kh (ek os mv S.length (S'.length-os.length)) S) (ss:=S'.map (oI r)) p hnd (λo ho=>by rw[ki];exact hos o ho) (by rw[bh];omega)
 have hA:∀i,i<S'.length->(gu S os mv S')[r i]?=(S'[i]?).map (oI r):=by
  intro i e;unfold gu;rw[hR0];by_cases e1:i<os.length
  ·have e2:os[i]?=some (r i):=by
    have:=om (B:=S.length) (jp e1);rw[hR0] at this;rw[this,jp e1]
   rw[(hsets (r i)).1 i e2,a8]
  ·have e2:=pd (B:=S.length) (a9 e1);rw[hR0] at e2;have:=(hsets (r i)).2.2 (by rw[ki,e2];omega);rw[this,ki,e2,a8,show os.length+(S.length+(i-os.length)-S.length)=i by omega]
 have hB:∀p so,(∀i,i<S'.length->r i≠p)->(gu S os mv S')[p]?=some so->so≠.gone->∃s,S[p]?=some s/\s≠.gone/\so=uD (oa (ek os mv S.length (S'.length-os.length))) s:=by
  intro p so hp e1 e2;unfold gu at e1;rw[hR0] at e1
  have hno:p∉os:=by
   intro hm;obtain⟨i,hi1,hi2⟩:=dd hm;have e3:=om (B:=S.length) (jp hi1);rw[hR0,hi2] at e3;exact hp i gt e3
  by_cases hpl:p<S.length
  ·rw[(hsets p).2.1 hno (by rw[ki];exact hpl),BT] at e1;obtain⟨s,hs,rfl⟩:=aq e1;exact⟨s,hs,Ey e2,rfl⟩
  ·rw[(hsets p).2.2 (by rw[ki];omega),ki,a8] at e1;obtain⟨s,hs,_⟩:=aq e1;have:=aR hs;refine t7 ?_ (hp (os.length+(p-S.length)) this);rw[<-hR0,pd gt];omega
 have hcase:∀p so,(gu S os mv S')[p]?=some so->so≠.gone->(∃i s,i<S'.length/\r i=p/\S'[i]?=some s/\s≠.gone/\so=oI r s)\/((∀i,i<S'.length->r i≠p)/\∃s,S[p]?=some s/\s≠.gone/\so=uD (oa (ek os mv S.length (S'.length-os.length))) s):=by
  intro p so e1 e2;by_cases him:∃i,i<S'.length/\r i=p
  ·obtain⟨i,e3,rfl⟩:=him;rw[hA i e3] at e1;obtain⟨s,hs,rfl⟩:=aq e1;exact .inl ⟨i,s,e3,rfl,hs,fW.1 e2,rfl⟩
  ·have hp:∀i,i<S'.length->r i≠p:=λi e3 e4=>him ⟨i,e3,e4⟩;exact .inr ⟨hp,hB p so hp e1 e2⟩
 have hrn:∀v x,dT S'.length v=true->VS θ' ρ' v x->VS θt (yg ρ ρ') (gF r v) x:=by
  intro v x e1 e2;rw[VS.rn];refine VS.mO (θ:=θ') (λq hq=>?_) e1 (e2.mono hnew);rw[hT1 q hq]
 refine⟨⟨hR.ok,bk hR.nx hR'.nx,λj hj=>(hob j (hpr j hj)).trans (hR.ob j hj),λj hj=>(hfm j (hpf j hj)).trans (hR.fm j hj),?_,?_,?_,?_,?_,?_⟩,hfr,hrn⟩
 ·show h0.lo<=low;rw[hlow];exact oX hR.lw hR'.lw
 ·show low<=h1.next;rw[hlow];exact bk (ep _ _).2 hR'.ln
 ·intro p so e1 e2
  rcases hcase p so e1 e2 with⟨i,s,e3,rfl,e4,e5,rfl⟩ | ⟨hp,s,e3,e4,rfl⟩
  ·rw[hT1 i e3];obtain⟨k,k2⟩:=hR'.obj i s e4 e5;refine⟨⟨k.e,⟨λe=>k.x.1 (hpr _ e),k.x.2⟩,⟨λe=>k.y.1 (hpr _ e),k.y.2⟩,⟨λe=>k.f.1 (hpf _ e),k.f.2⟩⟩,?_⟩;rw[oG.rn];refine oG.mO (θ:=θ') (λq hq=>by rw[hT1 q hq]) (H2 hb e4) ?_;exact k2.mono hnew rfl rfl
  ·rw[hT2 p hp];obtain⟨k,k2⟩:=hR.obj p s e3 e4;obtain⟨o1,o2,o3⟩:=hoth p s hp e3 e4;refine⟨k.mono hR'.nx,(k2.mono (h':=h) (λ_ _ e=>JA e) rfl rfl).map (hfr0 _) ?_ (hfm _ o3)⟩
   rcases k.e with e | e
   ·rw[e];exact hob _ o1
   ·rw[e];exact hob _ o2
 ·intro p q so so' hpq e1 e2 e3 e4
  rcases hcase p so e1 e2 with⟨i,s,a3,rfl,a4,a5,rfl⟩ | ⟨hp,s,a3,a4,rfl⟩
  ·rcases hcase q so' e3 e4 with⟨j,s',b3,rfl,b4,b5,rfl⟩ | ⟨hq,s',b3,b4,rfl⟩
   ·rw[hT1 i a3,hT1 j b3];exact hR'.sep i j s s' (λe=>hpq (by rw[e])) a4 a5 b4 b5
   ·rw[hT1 i a3,hT2 q hq];obtain⟨k,_⟩:=hR'.obj i s a4 a5;obtain⟨o1,o2,o3⟩:=hoth q s' hq b3 b4;exact⟨λe=>k.x.1 (by rw[e];exact o1),λe=>k.x.1 (by rw[e];exact o2),λe=>k.y.1 (by rw[e];exact o1),λe=>k.y.1 (by rw[e];exact o2),λe=>k.f.1 (by rw[e];exact o3)⟩
  ·rcases hcase q so' e3 e4 with⟨j,s',b3,rfl,b4,b5,rfl⟩ | ⟨hq,s',b3,b4,rfl⟩
   ·rw[hT2 p hp,hT1 j b3];obtain⟨k,_⟩:=hR'.obj j s' b4 b5;obtain⟨o1,o2,o3⟩:=hoth p s hp a3 a4;exact⟨λe=>k.x.1 (by rw[<-e];exact o1),λe=>k.y.1 (by rw[<-e];exact o1),λe=>k.x.1 (by rw[<-e];exact o2),λe=>k.y.1 (by rw[<-e];exact o2),λe=>k.f.1 (by rw[<-e];exact o3)⟩
   ·rw[hT2 p hp,hT2 q hq];exact hR.sep p q s s' hpq a3 a4 b3 b4
 ·intro id ob e
  have hfull:id<h1.next/\h1.aV.get id=some ob:=by
   unfold yg at e
   cases e2:ρ id with
   | some ob2=>
    rw[e2] at e;cases e;exact⟨ay (hR.row id _ e2).1 hR'.nx,by rw[hob id (hrow id _ e2)];exact(hR.row id _ e2).2.1⟩
   | none=>
    rw[e2] at e;exact⟨(hR'.row id ob e).1,(hR'.row id ob e).2.1⟩
  refine⟨hfull.1,hfull.2,?_⟩;intro p so e1 e2;unfold yg at e
  rcases hcase p so e1 e2 with⟨i,s,a3,rfl,a4,a5,rfl⟩ | ⟨hp,s,a3,a4,rfl⟩
  ·rw[hT1 i a3]
   cases e3:ρ id with
   | some ob2=>
    obtain⟨k,_⟩:=hR'.obj i s a4 a5;exact⟨λe=>k.x.1 (by rw[<-e];exact hrow id _ e3),λe=>k.y.1 (by rw[<-e];exact hrow id _ e3)⟩
   | none=>
    rw[e3] at e;exact(hR'.row id ob e).2.2 i s a4 a5
  ·rw[hT2 p hp]
   cases e3:ρ id with
   | some ob2=>exact(hR.row id _ e3).2.2 p s a3 a4
   | none=>
    rw[e3] at e;obtain⟨o1,o2,_⟩:=hoth p s hp a3 a4
    rcases hR'.nO id ob e with e4 | e4
    ·rw[e3] at e4;cases e4
    ·exact⟨λe5=>e4 (by rw[e5];exact o1),λe5=>e4 (by rw[e5];exact o2)⟩
 ·intro id ob e;unfold yg at e
  cases e2:ρ id with
  | some ob2=>rw[e2] at e;cases e;exact hR.nO id _ e2
  | none=>
   rw[e2] at e
   rcases hR'.nO id ob e with e4 | e4
   ·rw[e2] at e4;cases e4
   ·exact .inr λe5=>e4 (hpr id e5)
variable{ro:Option Nat}{all:List Oper}{o:Oper}{l:List Oper}{ds:List jy}{d:Nat}{ws:List SV}
def aJ.sc{K:eU->Prop}{c:Call}{Q:SV->List SO->Prop}(os:List Nat)(hst:eD all n [o]=true)(hop:o.op=.call c)(hdst:o.dst=some d)(hw:cH all f o.guard=some true)(hdy:gG (.call c)=true)
 (hc:jL P f c=some (g,vs)) (hq:SC P g ws S0 mv Q) (hvs:me (kM os S.length) ws=vs) (hK:os.length=S0.length) (hnd:os.Nodup) (hos:∀(i:Nat) so,S0[i]?=some so->∃o,os[i]?=some o/\S[o]?=some (oI (kM os S.length) so))
 (hb:∀r S',Q r S'->dT S'.length r=true/\xp S'.length S'=true)
 (hk:∀r S',Q r S'->aJ P ro all l ⟨(d,gF (kM os S.length) r)::pG (ek os mv S.length (S'.length-os.length)) f,n,gu S os mv S',ds⟩ K):aJ P ro all (o::l) ⟨f,n,S,ds⟩ K:=by
 rintro ρ0 h0 ⟨af,n',h,ds'⟩ ⟨rfl,rfl,θ,ρ,hR,hF⟩;subst hvs
 have hd:blt d n'=true:=by
  have:=(eR hst).1;rw[hdst] at this;exact this
 have hos2:∀o∈os,o<S.length:=by
  intro o ho;obtain⟨i,hi1,hi2⟩:=dd ho
  have:i<S0.length:=by omega
  obtain⟨o',e1,e2⟩:=hos i _ (jp this);rw[jp hi1] at e1;cases e1;rw[<-hi2];exact aR e2
 have hr:∀(i:Nat) so,S0[i]?=some so->S[kM os S.length i]?=some (oI (kM os S.length) so):=by
  intro i so e;obtain⟨o,e1,e2⟩:=hos i so e;rw[om e1];exact e2
 obtain⟨xs,cap,e1,e2⟩:=Bi hF hc;refine .c hop hdst (cE hF (dR hst hw)) hdy hd e1 rfl (hq _ _ ρ h _ rfl (hR.enter hr (λi j=>GI hnd hos2)) ((df.rn _).1 e2)) ?_;rintro v h' ⟨r,S',θ',ρ',h1,k1,rfl,k3,k4,k5,k6⟩;obtain⟨b1,b2⟩:=hb r S' k1;obtain⟨j1,j2,j3⟩:=R5 (low:=ic h.low h1.low) hR hr hK hnd hos2 k3 k5 k6 b2 rfl;refine hk r S' k1 ρ0 h0 _ ⟨rfl,rfl,_,_,j1,?_⟩
 have hF2:FR (Vs θ θ' (kM os S.length) S'.length) (yg ρ ρ') (aP (pG (ek os mv S.length (S'.length-os.length)) f)) af n' (Az h0.w ds'):=
  ⟨λi=>by rw[Bu];exact j2 _ _ (hF.v i),hF.u⟩
 exact hF2.put (fY hd) (j3 _ _ b1 k4)
end
section
variable {P:Program} {ro:Option Nat} {f:Fm} {n:Nat} {S:List SO} {ds:List jy} {r:Nat->Nat} {B:Nat}
mutual
def x7{o:Nat}:∀{v:SV},ni v=true->names o v=false
 | .a v,_=>lk v
 | .sl n e cs,_=>I9 n e cs
 | .im ks vs,_=>I7 ks vs
 | .ip cs,_=>I8 cs
 | .any,_=>ED
 | .e0 e,_=>I6 e
 | .ag cs,h=>by rw[names];exact dX (by rw[ni] at h;exact h)
 | .bB cs,h=>by rw[names];exact dX (by rw[ni] at h;exact h)
 | .fn g a b,h=>by rw[ni,ac] at h;rw[names,dX h.1,dX h.2];rfl
 | .iface t v,h=>by rw[names];exact x7 (by rw[ni] at h;exact h)
 | .ptr _ _,h=>by simp[ni] at h
 | .map _,h=>by simp[ni] at h
 | .buf _ _ _ _,h=>by simp[ni] at h
 | .sub _ _ _ _ _,h=>by simp[ni] at h
def dX{o:Nat}:∀{vs:List SV},cg vs=true->iW o vs=false
 | [],_=>rfl
 | d::ds,h=>by rw[cg,ac] at h;rw[iW,x7 h.1,dX h.2];rfl
end
def El{o:Nat}{v:SV}(h:ni v=true):aW o v=v:=by unfold aW;rw[x7 h];rfl
def bL{o:Nat}:∀{vs:List SV},cg vs=true->vs.map (aW o)=vs
 | [],_=>rfl
 | d::ds,h=>by rw[cg,ac] at h;rw[bi,El h.1,bL h.2]
mutual
def Od:∀{v:SV},ni v=true->gF r v=v
 | .a v,_=>by rw[gF]
 | .sl n e cs,_=>by rw[gF]
 | .im ks vs,_=>by rw[gF]
 | .ip cs,_=>by rw[gF]
 | .any,_=>by rw[gF]
 | .e0 e,_=>by rw[gF]
 | .ag cs,h=>by rw[gF,bg (by rw[ni] at h;exact h)]
 | .bB cs,h=>by rw[gF,bg (by rw[ni] at h;exact h)]
 | .fn g a b,h=>by rw[ni,ac] at h;rw[gF,bg h.1,bg h.2]
 | .iface t v,h=>by rw[gF,Od (by rw[ni] at h;exact h)]
 | .ptr _ _,h=>by simp[ni] at h
 | .map _,h=>by simp[ni] at h
 | .buf _ _ _ _,h=>by simp[ni] at h
 | .sub _ _ _ _ _,h=>by simp[ni] at h
def bg:∀{vs:List SV},cg vs=true->me r vs=vs
 | [],_=>by rw[me]
 | d::ds,h=>by rw[cg,ac] at h;rw[me,Od h.1,bg h.2]
end
mutual
def gx:∀{v:SV},ni v=true->dT B v=true
 | .a v,_=>by rw[dT];all_goals (intros;contradiction)
 | .sl n e cs,_=>by rw[dT];all_goals (intros;contradiction)
 | .im ks vs,_=>by rw[dT];all_goals (intros;contradiction)
 | .ip cs,_=>by rw[dT];all_goals (intros;contradiction)
 | .any,_=>by rw[dT];all_goals (intros;contradiction)
 | .e0 e,_=>by rw[dT];all_goals (intros;contradiction)
 | .ag cs,h=>by rw[dT];exact bH (by rw[ni] at h;exact h)
 | .bB cs,h=>by rw[dT];exact bH (by rw[ni] at h;exact h)
 | .fn g a b,h=>by rw[ni,ac] at h;rw[dT,bH h.1,bH h.2];rfl
 | .iface t v,h=>by rw[dT];exact gx (by rw[ni] at h;exact h)
 | .ptr _ _,h=>by simp[ni] at h
 | .map _,h=>by simp[ni] at h
 | .buf _ _ _ _,h=>by simp[ni] at h
 | .sub _ _ _ _ _,h=>by simp[ni] at h
def bH:∀{vs:List SV},cg vs=true->ia B vs=true
 | [],_=>rfl
 | d::ds,h=>by rw[cg,ac] at h;rw[ia,gx h.1,bH h.2];rfl
end
def nW:∀{a b:List SV},cg a=true->cg b=true->cg (a++b)=true
 | [],_,_,h=>h
 | d::ds,b,h,g=>by
  rw[cg,ac] at h;show cg (d::(ds++b))=true;rw[cg,h.1,nW h.2 g];rfl
def aB{α:Type}{enc:α->List SV}(h:∀x,cg (enc x)=true):∀l:List α,cg (l.flatMap enc)=true
 | []=>rfl
 | a::l=>by rw[d4];exact nW (h a) (aB h l)
def NF(l:List (List Nat)):cg (l.flatMap (aw ab))=true:=aB (λ_=>rfl) l
def RM(l:List Int):cg (l.flatMap (aw aa))=true:=aB (λ_=>rfl) l
def qm(o:Nat)(l:List (List Nat)):(l.flatMap (aw ab)).map (aW o)=l.flatMap (aw ab):=bL (NF l)
def IG(o:Nat)(l:List Int):(l.flatMap (aw aa)).map (aW o)=l.flatMap (aw aa):=bL (RM l)
def Ti(l:List (List Nat)):me r (l.flatMap (aw ab))=l.flatMap (aw ab):=bg (NF l)
def Th(l:List Int):me r (l.flatMap (aw aa))=l.flatMap (aw aa):=bg (RM l)
def Ns(l:List (List Nat)):ia B (l.flatMap (aw ab))=true:=bH (NF l)
def Nr(l:List Int):ia B (l.flatMap (aw aa))=true:=bH (RM l)
def S9(v:AV):gF r (.a v)=.a v:=by rw[gF]
def Tb(e:Nat):gF r (.e0 e)=.e0 e:=by rw[gF]
def Tg(n e:Nat)(cs:List SV):gF r (.sl n e cs)=.sl n e cs:=by rw[gF]
def Oc:gF r .any=.any:=by rw[gF]
def Te(ks:List AV)(vs:List SV):gF r (.im ks vs)=.im ks vs:=by rw[gF]
def Tf(cs:List SV):gF r (.ip cs)=.ip cs:=by rw[gF]
def Of(o off:Nat):gF r (.ptr o off)=.ptr (r o) off:=by rw[gF]
def Oe(o:Nat):gF r (.map o)=.map (r o):=by rw[gF]
def GJ(o n e:Nat)(c:Option Nat):gF r (.buf o n e c)=.buf (r o) n e c:=by rw[gF]
def Og(o off n e:Nat)(c:Option Nat):gF r (.sub o off n e c)=.sub (r o) off n e c:=by rw[gF]
def Ta(cs:List SV):gF r (.ag cs)=.ag (me r cs):=by rw[gF]
def Oh(cs:List SV):gF r (.bB cs)=.bB (me r cs):=by rw[gF]
def Tc(g:FuncId)(a b:List SV):gF r (.fn g a b)=.fn g (me r a) (me r b):=by rw[gF]
def Td(t:TypeId)(v:SV):gF r (.iface t v)=.iface t (gF r v):=by rw[gF]
def Ob:me r []=[]:=by rw[me]
def JE(d:SV)(ds:List SV):me r (d::ds)=gF r d::me r ds:=by rw[me]
def S7(cs:List SV):oI r (.cells cs)=.cells (me r cs):=rfl
def JF(ks:List AV)(vs:List SV)(b:Option (List Nat×Nat)):oI r (.map ks vs b)=.map ks (me r vs) b:=rfl
def Wa(m:SV)(bs:List Nat)(c:Nat)(pos:List Nat):oI r (.iter m bs c pos)=.iter (gF r m) bs c pos:=rfl
def S8(ks:List AV)(vs:List SV)(bs:List Nat)(c:Nat)(pos:List Nat):oI r (.qj ks vs bs c pos)=.qj ks vs bs c pos:=rfl
def V9:oI r .gone=.gone:=rfl
def Wb(c:hY)(ls:LoopState)(p:Option Code)(f:Fm):oI r (.loop c ls p f)=.loop c ls p (Ve r f):=rfl
def V8(N:Nat):oI r (.pT N)=.pT N:=rfl
def N9:Ve r []=[]:=rfl
def JD(d:Nat)(v:SV)(f:Fm):Ve r ((d,v)::f)=(d,gF r v)::Ve r f:=rfl
def V5(o:Nat)(os:List Nat)(B:Nat):kM (o::os) B 0=o:=rfl
def V7(o:Nat)(os:List Nat)(B i:Nat):kM (o::os) B (i+1)=kM os B i:=by
 unfold kM;rw[ap]
 cases os[i]? with
 | some _=>rfl
 | none=>simp
def V6(B i:Nat):kM [] B i=B+i:=rfl
def Iv(os mv:List Nat)(B:Nat):ek os mv B 0=mv.map (kM os B):=by unfold ek;simp
def Iw(os mv:List Nat)(B:Nat):ek os mv B 1=mv.map (kM os B)++[B+0]:=by unfold ek;rfl
def Ix(os mv:List Nat)(B:Nat):ek os mv B 2=mv.map (kM os B)++[B+0,B+1]:=by unfold ek;rfl
def Iy(os mv:List Nat)(B:Nat):ek os mv B 3=mv.map (kM os B)++[B+0,B+1,B+2]:=by unfold ek;rfl
def X8:(∀f:Fm,pG [] f=f)/\(∀(k:Nat) (ks:List Nat) (f:Fm),pG (k::ks) f=pG ks (eg k f))/\(∀S:List SO,kh [] S=S)/\(∀(k:Nat) (ks:List Nat) (S:List SO),kh (k::ks) S=kh ks (eC k S))/\
 (∀S ss:List SO,kI S [] ss=S++ss)/\(∀(S:List SO) (o:Nat) (os:List Nat) (s:SO) (ss:List SO),kI S (o::os) (s::ss)=kI (S.set o s) os ss)/\(∀(S:List SO) (os mv:List Nat) (S':List SO),gu S os mv S'=kI (kh (ek os mv S.length (S'.length-os.length)) S) os (S'.map (oI (kM os S.length))))/\
 (∀(g:Nat->Nat),([]:List Nat).map g=[])/\(∀(g:Nat->Nat) (a:Nat) (l:List Nat),(a::l).map g=g a::l.map g)/\(∀l:List Nat,[]++l=l)/\(∀(a:Nat) (l m:List Nat),(a::l)++m=a::(l++m))/\(∀(g:SO->SO),([]:List SO).map g=[])/\(∀(g:SO->SO) (a:SO) (l:List SO),(a::l).map g=g a::l.map g)/\
 (([]:List Nat).length=0)/\(∀(a:Nat) (l:List Nat),(a::l).length=l.length+1)/\(([]:List SO).length=0)/\(∀(a:SO) (l:List SO),(a::l).length=l.length+1)/\(∀l:List SO,l++[]=l)/\(∀n:Nat,n-0=n)/\(∀n:Nat,n-n=0):=by
 (repeat' apply b7)<;>intros<;>first | rfl | (simp;done) | rw[kI]
def X9:(type_of% @S9)/\(type_of% @Tb)/\(type_of% @Tg)/\(type_of% @Oc)/\(type_of% @Te)/\(type_of% @Tf)/\(type_of% @Of)/\(type_of% @Oe)/\(type_of% @GJ)/\(type_of% @Og)/\(type_of% @Ta)/\(type_of% @Oh)/\(type_of% @Tc)/\(type_of% @Td)/\(type_of% @Ob)/\(type_of% @JE)/\(type_of% @S7)/\(type_of% @JF)/\(type_of% @V9)/\(type_of% @Wa)/\(type_of% @S8)/\(type_of% @Wb)/\(type_of% @V8)/\(type_of% @N9)/\(type_of% @JD):=
 ⟨@S9,@Tb,@Tg,@Oc,@Te,@Tf,@Of,@Oe,@GJ,@Og,@Ta,@Oh,@Tc,@Td,@Ob,@JE,@S7,@JF,@V9,@Wa,@S8,@Wb,@V8,@N9,@JD⟩
def Ya:(type_of% @V5)/\(type_of% @V7)/\(type_of% @V6)/\(type_of% @Iv)/\(type_of% @Iw)/\(type_of% @Ix)/\(type_of% @Iy)/\(type_of% @qm)/\(type_of% @IG)/\(type_of% @Ti)/\(type_of% @Th)/\(type_of% @Ns)/\(type_of% @Nr):=
 ⟨@V5,@V7,@V6,@Iv,@Iw,@Ix,@Iy,@qm,@IG,@Ti,@Th,@Ns,@Nr⟩
def gh:(type_of% @X8)/\(type_of% @X9)/\(type_of% @Ya):=⟨@X8,@X9,@Ya⟩
def GZ:(type_of% @dT.eq_1)/\(type_of% @dT.eq_2)/\(type_of% @dT.eq_3)/\(type_of% @dT.eq_4)/\(type_of% @dT.eq_5)/\(type_of% @dT.eq_6)/\(type_of% @dT.eq_7)/\(type_of% @dT.eq_8)/\(type_of% @ia.eq_1)/\(type_of% @ia.eq_2)/\(type_of% @lG.eq_1)/\(type_of% @lG.eq_2)/\(type_of% @lG.eq_3)/\(type_of% @lG.eq_4)/\(type_of% @lG.eq_5)/\(type_of% @lG.eq_6)/\(type_of% @lG.eq_7)/\(type_of% @FJ.eq_1)/\(type_of% @FJ.eq_2)/\(type_of% @xp.eq_1)/\(type_of% @xp.eq_2)/\(∀(B:Nat) (v:AV),dT B (.a v)=true)/\(∀(B n e:Nat) (cs:List SV),dT B (.sl n e cs)=true)/\(∀(B:Nat) (cs:List SV),dT B (.ip cs)=true)/\(∀(B:Nat) (ks:List AV) (cs:List SV),dT B (.im ks cs)=true)/\(∀(B e:Nat),dT B (.e0 e)=true)/\(∀B:Nat,dT B .any=true):=
 ⟨@dT.eq_1,@dT.eq_2,@dT.eq_3,@dT.eq_4,@dT.eq_5,@dT.eq_6,@dT.eq_7,@dT.eq_8,@ia.eq_1,@ia.eq_2,@lG.eq_1,@lG.eq_2,@lG.eq_3,@lG.eq_4,@lG.eq_5,@lG.eq_6,@lG.eq_7,@FJ.eq_1,@FJ.eq_2,@xp.eq_1,@xp.eq_2,λ_ _=>gx rfl,λ_ _ _ _=>gx rfl,λ_ _=>gx rfl,λ_ _ _=>gx rfl,λ_ _=>gx rfl,λ_=>gx rfl⟩
variable{all:List Oper}{o:Oper}{l:List Oper}{d:Nat}
def aJ.PU{K:eU->Prop}{t yt:Nat}{x:Operand}{y:Value}{k e:Nat}{cs:List SV}(hst:eD all n [o]=true)(hop:o.op=.binOp .eql t x (.const y) yt)(hdst:o.dst=some d)(hw:cH all f o.guard=some true)
 (hx:fp f x=some (.sl k e cs)) (hy:mM mQ y=some (.slice none 0 0 (some 0))) (ht:jw P t=.sl) (hg:P.eqGuardType P.depth t=false) (hk:∀b:Bool,(b=true->k=0)->aJ P ro all l ⟨(d,.a (.bool b))::f,n,S,ds⟩ K):aJ P ro all (o::l) ⟨f,n,S,ds⟩ K:=by
 rintro ρ0 h0 ⟨af,n',h,ds'⟩ ⟨rfl,rfl,θ,ρ,hR,hF⟩;obtain⟨hd,_⟩:=eR hst;rw[hdst] at hd;obtain⟨a,ha,ka⟩:=bE hF hx;have ha':ev (dy af n') x=some a:=ha;obtain⟨e',hu⟩:=rk ht;have hyv:ev (dy af n') (.const y)=some (.slice none 0 0 (some 0)):=hy
 have fin:∀b:Bool,cW P .eql t a (.slice none 0 0 (some 0))=some (.bool b)->(b=true->k=0)->jz P ro all (o::l) ⟨af,n',h,ds'⟩ (λast'=>∃st',K st'/\st'.n=n'/\kP ρ0 h0 st' ast'):=by
  intro b hb hbk;refine .v hop hdst (cE hF (dR hst hw)) rfl hd (by rw[LQ,ha',hyv,m7,m7,hb];rfl) ?_;exact hk b hbk ρ0 h0 _ ⟨rfl,rfl,θ,ρ,hR,hF.put (fY hd) (by rw[VS])⟩
 rw[VS,GS] at ka
 rcases ka with⟨rfl,_,o',e'',c,rfl,_,_⟩ | ⟨id,off,cap,row,rfl,_⟩
 ·cases o' with
  | none=>exact fin true (by unfold cW;simp only[hg,ar,mL,hu,Option.isNone_none,m6]) λ_=>rfl
  | some q=>exact fin false (by unfold cW;simp only[hg,ar,mL,hu,m6]) λ_=>rfl
 ·exact fin false (by unfold cW;simp only[hg,ar,mL,hu,m6]) λh=>by cases h
def BK(S:List SO)(r:Nat->Nat):List SO->List Nat->Prop
 | [],_=>True
 | so::l,o::os=>S[o]?=some (oI r so)/\BK S r l os
 | _::_,[]=>False
def NJ:∀{S0:List SO} {os:List Nat},BK S r S0 os->∀(i:Nat) so,S0[i]?=some so->∃o,os[i]?=some o/\S[o]?=some (oI r so)
 | [],_,_,i,so,h=>by simp at h
 | s::l,o::os,hh,0,so,h=>by
  simp only[ax,n8] at h;subst h;exact⟨o,rfl,hh.1⟩
 | s::l,o::os,hh,i+1,so,h=>by
  simp only[ap] at h ⊢;exact NJ hh.2 i so h
 | _::_,[],hh,_,_,_=>hh.elim
variable{ws:List SV}{mv:List Nat}
def aJ.sk{K:eU->Prop}{c:Call}{S0 S1 S2:List SO}{r0 r2:SV}{f2:Fm}(os:List Nat)(hst:eD all n [o]=true)(hop:o.op=.call c)(hdst:o.dst=some d)(hw:cH all f o.guard=some true)(hdy:gG (.call c)=true)
 (hc:jL P f c=some (g,vs)) (hq:SC P g ws S0 mv (λr S'=>r=r0/\S'=S1)) (hvs:me (kM os S.length) ws=vs) (hK:os.length=S0.length) (hnd:os.Nodup) (hos:BK S (kM os S.length) S0 os)
 (hb1:dT S1.length r0=true) (hb2:xp S1.length S1=true) (hr:gF (kM os S.length) r0=r2) (hf:pG (ek os mv S.length (S1.length-os.length)) f=f2) (hS:gu S os mv S1=S2)
 (hk:aJ P ro all l ⟨(d,r2)::f2,n,S2,ds⟩ K):aJ P ro all (o::l) ⟨f,n,S,ds⟩ K:=by
 refine .sc os hst hop hdst hw hdy hc hq hvs hK hnd (NJ hos) ?_ ?_
 ·rintro _ _ ⟨rfl,rfl⟩;exact⟨hb1,hb2⟩
 ·rintro _ _ ⟨rfl,rfl⟩;rw[hr,hf,hS];exact hk
def QC.of{fn:Func}{K:Nat}{Q:SV->List SO->Prop}{e:Ex}{rs:List ResultVar}(he:lP e=true)(hr:fn.results.toList=rs)(h:qB P f S rs=some vs)(hq:Q (dA vs) S)(hK:K<=S.length)(hw:∀i,i<K->i∉mv->aP f (1000000+i)=.ptr i 0):QC P fn K mv Q e ⟨f,n,S,[]⟩:=
 ⟨he,rfl,⟨vs,by rw[hr];exact h,hq⟩,hK,hw⟩
end
open Go.RowKit
def Pf(σ:Sg){vs:Array Value}(ih:∀i:Fin vs.size,∃a,V σ a vs[i]):∃a,V σ a (.agg vs):=by
 refine⟨.agg (ofFn λi=>(ih i).choose),.agg (fx) ?_⟩;intro i a v h1 h2;rw[eB] at h1;by_cases hi:i<vs.size
 ·rw[dif_pos hi] at h1;rw[aO hi] at h2;cases h1;cases h2;exact(ih ⟨i,hi⟩).choose_spec
 ·rw[dif_neg hi] at h1;cases h1
def VJ(σ:Sg):∀(n:Nat) (v:Value),SizeOf.sizeOf v<n->∃a,V σ a v
 | 0,_,h=>t7 h (Nat.not_lt_zero _)
 | n+1,v,h=>by
  by_cases hv:∃vs,v=.agg vs
  ·obtain⟨vs,rfl⟩:=hv;refine Pf σ λi=>VJ σ n vs[i] ?_;have h1:SizeOf.sizeOf vs[i]<SizeOf.sizeOf vs:=Array.sizeOf_getElem vs i.1 i.2
   have h2:SizeOf.sizeOf (Value.agg vs)=1+SizeOf.sizeOf vs:=by simp
   omega
  ·exact⟨.any,.any λvs e=>hv ⟨vs,e⟩⟩
def XD(σ:Sg)(c:Array Value)(d:Nat):∀(n:Nat),d+n<=c.size->∃aS:List AV,aS.length=n/\∀(i:Nat) (a:AV),aS[i]?=some a->∃v,c[d+i]?=some v/\V σ a v:=by
 intro n hn;have ih:∀i:Fin n,∃a,V σ a (c[d+i.1]'(by have:=i.2;omega)):=λi=>VJ σ _ _ (b9 _);refine⟨ofFn λi=>(ih i).choose,fx,?_⟩;intro i a h1;rw[eB] at h1;by_cases hi:i<n
 ·rw[dif_pos hi] at h1;cases h1;have hs:=(ih ⟨i,hi⟩).choose_spec;exact⟨_,aO gt,hs⟩
 ·rw[dif_neg hi] at h1;cases h1
noncomputable def H.lV(h:H)(id bX:Nat)(cs:List AV):H:={ h with aV:=h.aV.put id (some (.cells cs bX)),low:=ic h.low id }
def HR.lV{σ:Sg}{h:H}{w:World}(hr:HR σ h w){id bX:Nat}{cs ex:List AV}{p:uV}(ho:h.aV.get id=some (.cells cs bX))(hp:σ id=some p){c:Array Value}{e:TypeId}(hb:w.heap[p.b]?=some (.cells c e (0,0)))
 (hl:cs.length+ex.length<=p.r) (hV:∀(i:Nat) (a:AV),ex[i]?=some a->∃v,c[p.d+cs.length+i]?=some v/\V σ a v):HR σ (h.lV id bX (cs++ex)) w/\Ext σ σ h (h.lV id bX (cs++ex)) w w:=by
 obtain⟨q,c0,e0,hq,h1,h2,h3,h4⟩:=hr.cells ho;rw[hp] at hq;cases hq;rw[hb] at h1;cases h1;have hm:=ep h.low id
 have get:∀j x,(h.lV id bX (cs++ex)).aV.get j=some x->(j=id/\x=.cells (cs++ex) bX)\/(j≠id/\h.aV.get j=some x):=by
  intro j x hx;simp only[H.lV,dS] at hx;split at hx
  ·rename_i e;cases hx;exact .inl ⟨e,rfl⟩
  ·rename_i hne;exact .inr ⟨hne,hx⟩
 have nO:∀j x,(h.lV id bX (cs++ex)).aV.get j=some x->∃y,h.aV.get j=some y/\(x=y\/(y=.cells cs bX/\x=.cells (cs++ex) bX)):=by
  intro j x hx
  rcases get j x hx with⟨rfl,rfl⟩ | ⟨_,h⟩
  ·exact⟨_,ho,.inr ⟨rfl,rfl⟩⟩
  ·exact⟨x,h,.inl rfl⟩
 refine⟨⟨?_,hr.fresh,?_,?_,bk hm.1 hr.B0⟩,⟨λ_ _ h=>h,be _,be _,rfl,rfl,rfl,?_,λ_ _ _=>rfl,hm.1,?_,λ_ _ h=>h,?_⟩⟩
 ·intro j x hx
  rcases get j x hx with⟨rfl,rfl⟩ | ⟨_,h⟩
  ·refine⟨p,hp,c,e,hb,h2,by rw[li];exact hl,?_⟩;intro i a ha;rw[cv] at ha;split at ha
   ·exact h4 i a ha
   ·rename_i hlt;obtain⟨v,hv,hV⟩:=hV _ a ha;rw[show p.d+cs.length+(i-cs.length)=p.d+i by omega] at hv;exact⟨v,hv,hV⟩
  ·exact hr.obj j x h
 ·intro i j x y q1 q2 hij hx hy a1 a2 hb2;obtain⟨x',g1,k1⟩:=nO i x hx;obtain⟨y',g2,k2⟩:=nO j y hy;have:=hr.sep i j x' y' q1 q2 hij g1 g2 a1 a2 hb2
  rcases this with⟨b1,b2,f,e1,e2⟩ | ⟨b1,b2,e1,e2⟩
  ·left
   rcases k1 with rfl | ⟨rfl,rfl⟩<;>rcases k2 with rfl | ⟨rfl,rfl⟩
   ·exact⟨_,_,f,e1,e2⟩
   ·cases e2;exact⟨_,_,_,e1,rfl⟩
   ·cases e1;exact⟨_,_,_,rfl,e2⟩
   ·exact⟨_,_,_,rfl,rfl⟩
  ·right
   rcases k1 with rfl | ⟨rfl,rfl⟩<;>rcases k2 with rfl | ⟨rfl,rfl⟩
   ·exact⟨_,_,e1,e2⟩
   ·cases e2
   ·cases e1
   ·cases e1
 ·intro i cs' f hi
  rcases get i _ hi with⟨rfl,e⟩ | ⟨_,h⟩
  ·cases e;exact hr.bX i _ _ ho
  ·exact hr.bX i _ _ h
 ·intro j x q hx hq;obtain⟨x',g1,k1⟩:=nO j x hx;refine .inr ⟨j,x',q,g1,hq,rfl,?_⟩
  rcases k1 with rfl | ⟨rfl,rfl⟩
  ·exact λh=>h
  ·exact λ_ cs e=>by cases e
 ·intro j hj hjn;simp only[H.lV,dS];rw[ul (by simp only[H.lV] at hj;omega)]
 ·intro j cs' f hj
  rcases get j _ hj with⟨rfl,e⟩ | ⟨_,h⟩
  ·cases e;exact .inr ⟨j,cs,ho⟩
  ·exact .inr ⟨j,cs',h⟩
variable{ro:Option Nat}{id:Nat}
def l9.LZ{c:Code}{st:gZ}{Q:Ex->gZ->Prop}{i0 len es bX:Nat}{cs:List AV}(hi:i0<st.n)(hf:st.f i0=.slice (some (id,0)) len es none)(ho:st.h.aV.get id=some (.cells cs bX))
 (hk:∀(cap:Nat) (ex:List AV),len<=cap->ex.length=cap*es-cs.length->l9 P ro c ⟨C6 st.f i0 (.slice (some (id,0)) len es (some cap)),st.n,st.h.lV id bX (cs++ex),st.ds⟩ Q):l9 P ro c st Q:=by
 intro F n σ a w hs hF;have hv:=hs.t.2 i0 hi;rw[hf] at hv;obtain⟨p,c0,e0,hp,h1,h2,h3,h4⟩:=hs.h.cells ho;generalize hg:a.tmps.getD i0 undef=v at hv
 cases hv with
 | @slice _ _ _ _ _ ad p' cp hp' hl hr hc ha=>
  rw[hp] at hp';cases hp';rw[bo] at hr;obtain⟨ex,hx1,hx2⟩:=XD σ c0 (p.d+cs.length) (cp*es-cs.length) gt;obtain⟨g1,g2⟩:=hs.h.lV ho hp h1 (ex:=ex) gt hx2;refine(hk cp ex hl hx1).wide (σ:=σ) ?_ hF g2 rfl;refine⟨⟨hs.t.1,λi hi'=>?_⟩,g1,hs.ds⟩;by_cases e:i=i0
  ·subst e;rw[hg];show V σ (C6 st.f i _ i) _;rw[wW];exact .slice hp hl gt (λx hx=>by cases hx;rfl) ha
  ·show V σ (C6 st.f i0 _ i) _;rw[tI _ _ e];exact hs.t.2 i hi'
def HN{θ:Nat->Loc}{ρ:lD}:∀(aS:List AV),df θ ρ (ch aS.length .any) aS
 | []=>by rw[g9,List.replicate_zero,aU]
 | a::aS=>by
  rw[i7,List.replicate_succ,aG];exact⟨a,aS,rfl,by rw[VS];trivial,HN aS⟩
def aD.LZ{P:Program}{ro:Option Nat}{c:Code}{f:Fm}{n:Nat}{S:List SO}{ds:List jy}{Q:Ex->eU->Prop}(i0:Nat){o len e:Nat}{cs:List SV}(hi:i0<n)(hf:aP f i0=.buf o len e none)(hS:S[o]?=some (.cells cs))
 (hk:∀cap,len<=cap->aD P ro c ⟨(i0,.buf o len e (some cap))::f,n,S.set o (.cells (cs++ch (cap*e-cs.length) .any)),ds⟩ Q):aD P ro c ⟨f,n,S,ds⟩ Q:=by
 rintro ρ0 h0 ⟨af,n',h,ds'⟩ ⟨rfl,rfl,θ,ρ,hR,hF⟩;obtain⟨hL,aS,g1,g2,g3⟩:=hR.obj o _ hS f7;have hv:=hF.v i0;rw[hf,VS] at hv;rw[t8 hi] at hv;refine l9.LZ hi hv g1 ?_;intro cap ex hle hex;have hlen:=g2.length;refine hk cap hle ρ0 h0 _ ⟨rfl,rfl,θ,ρ,?_,?_⟩
 ·have hidr:¬h0.pr (θ o).id:=by
   rcases hL.e with e | e<;>rw[e]
   ·exact hL.x.1
   ·exact hL.y.1
  have hm:=ep h.low (θ o).id
  have hlo:h0.lo<=ic h.low (θ o).id:=by
   have:=hR.ok.lo _ hidr;have:=hR.lw;unfold ic;cases ble h.low (θ o).id<;>simpa
  have get:∀j,j≠(θ o).id->(h.lV (θ o).id (θ o).bX (aS++ex)).aV.get j=h.aV.get j:=by
   intro j hj;simp only[H.lV,dS];rw[ul hj]
  have own:∀p so,(S.set o (.cells (cs++ch (cap*e-cs.length) .any)))[p]?=some so->(p=o/\so=.cells (cs++ch (cap*e-cs.length) .any))\/(p≠o/\S[p]?=some so):=by
   intro p so hp;by_cases e:p=o
   ·subst e;rw[bd (aR hS)] at hp;cases hp;exact .inl ⟨rfl,rfl⟩
   ·rw[bt (λh=>e h.symm)] at hp;exact .inr ⟨e,hp⟩
  have sepo:∀p so,p≠o->S[p]?=some so->so≠.gone->(θ p).id≠(θ o).id:=by
   intro p so hp h1 h2 e;have sp:=hR.sep p o so _ hp h1 h2 hS f7;obtain⟨k,_⟩:=hR.obj p so h1 h2
   rcases k.e with e1 | e1<;>rcases hL.e with e2 | e2<;>rw[e1,e2] at e
   ·exact sp.xx e
   ·exact sp.xy e
   ·exact sp.yx e
   ·exact sp.yy e
  refine⟨hR.ok,hR.nx,λj hj=>?_,hR.fm,hlo,bk hm.1 hR.ln,?_,?_,?_,hR.nO⟩
  ·rw[get j (λe=>hidr (e▸hj))];exact hR.ob j hj
  ·intro p so hp hg
   rcases own p so hp with⟨rfl,rfl⟩ | ⟨hne,hp'⟩
   ·refine⟨hL,aS++ex,?_,?_,g3⟩
    ·simp only[H.lV,dS];rw[t8 trivial]
    ·refine g2.app ?_;rw[<-hlen,<-hex];exact HN ex
   ·obtain⟨k1,k2⟩:=hR.obj p so hp' hg;refine⟨k1,?_⟩;have hid:=sepo p so hne hp' hg
    cases so with
    | cells cs'=>obtain⟨as',q1,q2,q3⟩:=k2;exact⟨as',by rw[get _ hid];exact q1,q2,q3⟩
    | map ks vs b=>obtain⟨l,c,q1,q2,q3⟩:=k2;exact⟨l,c,by rw[get _ hid];exact q1,q2,q3⟩
    | iter m bs c pos=>obtain⟨lE,q1,q2⟩:=k2;exact⟨lE,q1,by rw[get _ hid];exact q2⟩
    | qj ks vs bs c pos=>obtain⟨lE,l,q1,q2,q3,q4⟩:=k2;exact⟨lE,l,q1,q2,q3,by rw[get _ hid];exact q4⟩
    | gone=>trivial
    | loop=>obtain⟨q1,q2,q3⟩:=k2;exact⟨q1,by rw[get _ hid];exact q2,q3⟩
    | pT=>exact⟨k2.1,by rw[get _ hid];exact k2.2⟩
  ·intro p p' so so' hpp hp hg hp' hg'
   rcases own p so hp with⟨rfl,rfl⟩ | ⟨hne,hq⟩<;>rcases own p' so' hp' with⟨rfl,rfl⟩ | ⟨hne',hq'⟩
   ·exact t7 rfl hpp
   ·exact hR.sep p p' _ so' hpp hS f7 hq' hg'
   ·exact hR.sep p p' so _ hpp hq hg hS f7
   ·exact hR.sep p p' so so' hpp hq hg hq' hg'
  ·intro id ob hi';obtain⟨r1,r2,r3⟩:=hR.row id ob hi'
   have hne:id≠(θ o).id:=by
    have:=r3 o _ hS f7
    rcases hL.e with e | e<;>rw[e]
    ·exact this.1
    ·exact this.2
   refine⟨r1,by rw[get _ hne];exact r2,λp so hp hg=>?_⟩
   rcases own p so hp with⟨rfl,rfl⟩ | ⟨_,hq⟩
   ·exact r3 p _ hS f7
   ·exact r3 p so hq hg
 ·refine⟨λi=>?_,hF.u⟩;show VS θ ρ (if i0=i then _ else aP f i) _;by_cases e:i0=i
  ·subst e;rw[t8 rfl,VS];simp only[t8 hi,wW]
  ·rw[ul e];have:=hF.v i;by_cases hi2:i<n'
   ·rw[t8 hi2] at this ⊢;simp only;rw[tI _ _ (λh=>e h.symm)];exact this
   ·rw[ul hi2] at this ⊢;exact this
def B5(a b:Nat):ic a b=min a b:=by
 unfold ic;cases h:ble a b
 ·have:¬a<=b:=λe=>by rw[fH e] at h;cases h
  rw[ar];omega
 ·have:=j8 h;rw[ah];omega
def E9{h h1:H}{off bX x y:Nat}{cs:List AV}(ho:h.aV.get id=some (.cells cs bX))(hf:h.dN.get bX=some (x,y))(hid:id<h.next)(hx:x<h.next)(hy:y<h.next)
 (hs:({ h with low:=h.next }:H).store id off xs=some h1):h.store id off xs=some { h1 with low:=ic h.low h1.low }:=by
 unfold H.store at hs ⊢;simp only[ho] at hs ⊢;cases hc:(ble (off+xs.length) cs.length&&xs.all lu)
 ·rw[hc,ar] at hs;cases hs
 ·rw[hc,ah] at hs;rw[ah];cases hs;unfold H.alone;simp only[hf];cases hb:(beq x id&&beq y id)
  ·simp only[ar,B5,n8,H.mk.injEq,true_and];omega
  ·simp only[ah,B5,n8,H.mk.injEq,true_and];omega
def SC.row{args cs cs':List SV}{r0:SV}(hlen:cs'.length=cs.length)(hone:∀(θ:Nat->Loc) (ρ:lD) (xs:List AV),df θ ρ cs' xs->xs.all lu=true)
 (H:∀(E:En) (θ:Nat->Loc) (ρ:lD) (h:H) (avs asx:List AV) (bX:Nat),E.h={ h with low:=h.next }->RS θ ρ ρ E E.h [.cells cs]->df θ ρ args avs->h.aV.get (θ 0).id=some (.cells asx bX)->df θ ρ cs asx->
  (∃q:Nat×Nat,h.dN.get bX=some (q.1,q.2)/\((θ 0).id=q.1\/(θ 0).id=q.2)/\q.1<h.next/\q.2<h.next/\bX<h.next/\(θ 0).id<h.next)->
  dK P (.func g) avs h (λv h'=>VS θ ρ r0 v/\∃xs,df θ ρ cs' xs/\h.store (θ 0).id 0 xs=some h')):SC P g args [.cells cs] [] (λr S'=>r=r0/\S'=[.cells cs']):=by
 intro E θ ρ h avs hE hR hA;obtain⟨⟨k1,k2,k3,k4⟩,asx,q1,q2,q3⟩:=hR.obj 0 _ rfl f7
 have hidn:(θ 0).id<E.h.next:=by rcases k1 with e | e<;>rw[e];exact k2.2;exact k3.2
 have e1:E.h.aV=h.aV:=by rw[hE]
 have e2:E.h.dN=h.dN:=by rw[hE]
 have e3:E.h.next=h.next:=by rw[hE]
 rw[e1] at q1;rw[e2] at q3;rw[e3] at hidn;have kx:=k2.2;have ky:=k3.2;have kf:=k4.2;rw[e3] at kx ky kf;refine(H E θ ρ h avs asx (θ 0).bX hE hR hA q1 q2 ⟨((θ 0).x,(θ 0).y),q3,k1,kx,ky,kf,hidn⟩).mono ?_;rintro v h' ⟨hv,xs,hxs,hst⟩;obtain⟨h1,g1,g2,g3⟩:=hR.store (o:=0) (cs:=cs) (vs:=cs') (off:=0) rfl hxs (hone θ ρ xs hxs) gt;rw[hE] at g1;have g4:=E9 q1 q3 hidn kx ky g1;rw[hst] at g4;cases g4;refine⟨r0,[.cells cs'],_,ρ,h1,⟨rfl,rfl⟩,rfl,?_,g3 _ _ hv,be _,?_⟩
 ·have:(cs.take 0++(cs'++cs.drop (0+cs'.length)))=cs':=by
   rw[bo,hlen,List.drop_length,ei,b6,ej]
  rw[this] at g2;exact g2
 ·intro i hi _
  have:i=0:=by
   have:i<1:=hi;omega
  subst this;rw[cF]
def Fg.e0{f:Fm}{n:Nat}{S:List SO}{ds:List jy}(i e:Nat)(h:aP f i=.a (.slice none 0 0 (some 0))\/∃o,aP f i=.buf o 0 e (some 0)):Fg ⟨f,n,S,ds⟩ ⟨(i,.e0 e)::f,n,S,ds⟩:=by
 refine⟨rfl,?_⟩;rintro ρ0 h0 ⟨af,n',hh,ds'⟩ ⟨rfl,rfl,θ,ρ,hR,hF⟩;refine⟨rfl,rfl,θ,ρ,hR,λj=>?_,hF.u⟩;show VS θ ρ (if i=j then _ else aP f j) _;by_cases e1:i=j
 ·subst e1;rw[t8 rfl];have:=hF.v i
  rcases h with h | ⟨o,h⟩
  ·rw[h,VS] at this;rw[VS,this];exact⟨none,0,rfl,λh=>t7 rfl h⟩
  ·rw[h,VS] at this;rw[VS,this];exact⟨_,e,rfl,λ_=>rfl⟩
 ·rw[ul e1];exact hF.v j
def VY(K:Act->World->Prop)(Q:Exit->Act->World->Prop):Exit->Act->World->Prop
 | .normal,a,w=>K a w
 | e,a,w=>Q e a w
variable{o:Oper}
def M6{F:Fence}{a:Act}{next K:Act->World->Prop}{Q:Exit->Act->World->Prop}(r:Result Next):o.uponIn F n P a next (VY K Q) r=o.uponIn F n P a next Q r:=by
 unfold Oper.uponIn;split<;>rfl
def Yf(P:Program)(ro:Option Nat)(ol:List Oper)(i:Nat)(st:gZ)(K:gZ->Prop):Prop:=∀(ops:Array Oper),ops.toList=ol->∀(F:Fence) (n:Nat) (σ:Sg) (a:Act) (w:World) (K':Act->World->Prop) (Q:Exit->Act->World->Prop),
 SF σ st a w->Fx σ ro F->(∀st' a' w' σ',K st'->SF σ' st' a' w'->Ext σ σ' st.h st'.h w w'->st'.n=st.n->K' a' w')->wpOpIn F n P ops Q i K' a w
variable{i:Nat}
def Yf.of{ol:List Oper}{st:gZ}{K:gZ->Prop}(ho:ol[i]?=some o)(hg:∀j b,o.guard=some (j,b)->j<i)(h:jz P ro (ol.take (i+1)) [o] st K):Yf P ro ol i st K:=by
 intro ops hops F n σ a w K' Q hs hF hk
 have hlt:i<ol.length:=by
  rcases Nat.lt_or_ge i ol.length with h | h
  ·exact h
  ·rw[a7 h] at ho;cases ho
 have hdrop:((ol.take (i+1)).toArray.toList).drop i=[o]:=by
  rw[em,d2,show i+1-i=1 by omega]
  have:ol.drop i=o::ol.drop (i+1):=by
   rw[List.drop_eq_getElem_cons hlt];rw[jp hlt] at ho;cases ho;rfl
  rw[this];rfl
 have:=h (ol.take (i+1)).toArray i (em) hdrop F n σ a w (VY K' Q) hs hF λst' a' w' σ' h1 h2 h3 h4=>hk st' a' w' σ' h1 h2 h3 h4;rw[show List.range' i [o].length=[i] from rfl,wpOpsIn_cons] at this;unfold wpOpIn at this ⊢
 have ho1:(ol.take (i+1)).toArray[i]?=some o:=by
  rw[d8,eF,t8 gt];exact ho
 have ho2:ops[i]?=some o:=by rw[<-b8,hops];exact ho
 rw[ho1] at this;rw[ho2];simp only at this ⊢
 have hw:Region.wanted o (yielded ops a.tmps)=Region.wanted o (yielded (ol.take (i+1)).toArray a.tmps):=by
  unfold Region.wanted
  cases hgd:o.guard with
  | none=>rfl
  | some jb=>
   obtain⟨j,b⟩:=jb;simp only;have hj:=hg j b hgd
   have:yielded ops a.tmps j=yielded (ol.take (i+1)).toArray a.tmps j:=by
    unfold yielded;rw[<-b8 (xs:=ops),hops,d8,eF,t8 gt]
   rw[this]
 rw[hw];cases hc:Region.wanted o (yielded (ol.take (i+1)).toArray a.tmps)
 ·rw[hc] at this;simp only[Bool.false_eq_true,if_false] at this ⊢;exact this
 ·rw[hc] at this;simp only[if_true] at this ⊢;unfold Oper.wpIn at this ⊢;refine⟨this.1,?_⟩;have h2:=this.2;rw[M6] at h2;exact h2
variable{all:List Oper}{l:List Oper}
def jz.mono{st:gZ}{K K':gZ->Prop}(h:jz P ro all l st K)(hk:∀x,K x->K' x):jz P ro all l st K':=
 λops i h1 h2 F n σ a w Q hs hF hQ=>h ops i h1 h2 F n σ a w Q hs hF λst' a' w' σ' hK=>hQ st' a' w' σ' (hk _ hK)
def dep(e:Edge):Bool:=Region.binds .any e
def mN:Nat->List Oper->Bool
 | _,[]=>true
 | i,o::l=>(o.after.toList.all λe=>!(dep e)||blt e.on i)&&mN (i+1) l
def qQ:∀{l:List Oper} {k i:Nat} {o:Oper},mN k l=true->l[i]?=some o->∀e∈o.after.toList,dep e=true->e.on<k+i
 | [],_,_,_,_,h=>by simp at h
 | x::l,k,0,o,hb,h=>by
  simp only[ax,n8] at h;subst h;intro e he hd;rw[mN,ac,all_eq_true] at hb;have:=hb.1 e he;rw[hd,Bool.not_true,Bool.false_or] at this;exact fY this
 | x::l,k,i+1,o,hb,h=>by
  simp only[ap] at h;rw[mN,ac] at hb;intro e he hd;have:=qQ hb.2 h e he hd;omega
structure Yg (ol:List Oper) (L:Nat->Prop) (i:Nat) (o:Oper):Prop where
 gw:ol[i]?=some o
 new:¬L i
 dep:∀e∈o.after.toList,Ev.dep e=true->L e.on
def l9.any{P:Program}{ro:Option Nat}{id:Nat}{ops:Array Oper}{st:gZ}{Q:Ex->gZ->Prop}{ol:List Oper}(hol:ops.toList=ol)(hok:(mN 0 ol&&P.follows .mixedOrders)=true)(J:(Nat->Prop)->gZ->Prop)(h0:J (λ_=>False) st)(hn:∀L x,J L x->x.n=st.n)
 (hstep:∀L x i o,J L x->Yg ol L i o->Yf P ro ol i x (J λj=>L j\/j=i)) (hend:∀L x,J L x->(∀i,i<ol.length->L i)->Q .normal x):l9 P ro (.region id ops true) st Q:=by
 rw[ac] at hok;obtain⟨hback,hmix⟩:=hok
 have hsz:ops.size=ol.length:=by rw[<-hol];simp
 intro F nn σ0 a0 w0 hs0 hF0;refine wpIn_region_draw λt=>?_;simp only[Region.schedule,hmix,d5,if_true];have hE2:Ext σ0 σ0 st.h st.h w0 { w0 with drawn:=w0.drawn+1 }:=Ext.of_eq rfl rfl rfl rfl;refine wpAnyIn_sound ops.size t _ a0 _ ?_
 have key:∀(fuel:Nat) (listed:Array Bool) (x:gZ) (σ:Sg) (a:Act) (w:World),listed.size=ops.size->left listed ops.size<=fuel->J (λj=>listed.getD j false=true) x->SF σ x a w->Fx σ ro F->Ext σ0 σ st.h x.h w0 w->
  wpAnyIn F nn P .any ops (DP σ0 st.h w0 st.n Q) fuel listed a w:=by
  intro fuel
  have hdone:∀(listed:Array Bool) (x:gZ) (σ:Sg) (a:Act) (w:World),listed.size=ops.size->J (λj=>listed.getD j false=true) x->SF σ x a w->Ext σ0 σ st.h x.h w0 w->Region.ready .any ops listed=[]->DP σ0 st.h w0 st.n Q .normal a w:=by
   intro listed x σ a w hls hJ hs hE hr
   have hall:∀i,i<ol.length->listed.getD i false=true:=by
    intro i
    induction i using Nat.strongRecOn with
    | _ i ih=>
     intro hi;cases hb:listed.getD i false
     ·exfalso
      have hi':i<ops.size:=by omega
      have hoi:ops[i]?=some ops[i]:=aO hi'
      have hoi':ol[i]?=some ops[i]:=by rw[<-hol,b8];exact hoi
      have hm:i∈Region.ready .any ops listed:=by
       refine mem_ready.2 ⟨?_,ops[i],hoi,λe he hbind=>?_⟩
       ·rw[al] at hb ⊢;rw[aO gt] at hb ⊢;exact hb
       ·have hlt:=qQ hback hoi' e (by simpa using he) hbind;rw[bo] at hlt;exact ih e.on hlt gt
      rw[hr] at hm;simp at hm
     ·rfl
   exact⟨.normal,x,hend _ x hJ hall,rfl,σ,hs,hE,hn _ x hJ⟩
  induction fuel with
  | zero=>
   intro listed x σ a w hls hle hJ hs hF hE
   have hr:Region.ready .any ops listed=[]:=by
    cases hr:Region.ready .any ops listed with
    | nil=>rfl
    | cons i rs=>
     exfalso
     have hm:i∈Region.ready .any ops listed:=by rw[hr];exact ba ..
     obtain⟨h1,o,h2,_⟩:=mem_ready.1 hm;have hi:i<ops.size:=(Array.getElem?_eq_some_iff.1 h2).1
     have:i∈(el ops.size).filter λi=>!listed.getD i false:=by
      refine List.mem_filter.2 ⟨mem_range.2 hi,?_⟩;rw[al,aO gt] at h1 ⊢;simp only[Option.getD_some] at h1 ⊢;rw[h1];rfl
     have h0:((el ops.size).filter λi=>!listed.getD i false).length=0:=by unfold left at hle;omega
     rw[rx h0] at this;simp at this
   exact⟨hr,hdone listed x σ a w hls hJ hs hE hr⟩
  | succ fuel ih=>
   intro listed x σ a w hls hle hJ hs hF hE;refine⟨hdone listed x σ a w hls hJ hs hE,λi hi=>?_⟩;obtain⟨h1,o,h2,h3⟩:=mem_ready.1 hi;have hlt:i<ops.size:=(Array.getElem?_eq_some_iff.1 h2).1
   have hfalse:listed.getD i false=false:=by
    rw[al,aO gt] at h1 ⊢;exact h1
   have hrd:Yg ol (λj=>listed.getD j false=true) i o:=⟨by rw[<-hol,b8];exact h2,by rw[hfalse];simp,λe he hb=>h3 e (by simpa using he) hb⟩;refine hstep _ x i o hJ hrd ops hol F nn σ a w _ _ hs hF ?_;intro x' a' w' σ' hJ' hs' hE' hn';refine ih _ x' σ' a' w' (by simpa using hls) ?_ ?_ hs' (hF.mono hE'.le) (hE.trans hE')
   ·have:left (listed.setIfInBounds i true) ops.size<left listed ops.size:=by
     unfold left;refine filter_lt _ ?_ ⟨i,mem_range.2 hlt,by rw[hfalse];rfl,?_⟩
     ·intro y _ hy;by_cases e:i=y
      ·subst e;rw[al,bx,t8 rfl,t8 gt] at hy;simp at hy
      ·rw[getD_set_ne false e] at hy;exact hy
     ·rw[al,bx,t8 rfl,t8 gt];rfl
    omega
   ·have:(λj=>(listed.setIfInBounds i true).getD j false=true)=λj=>listed.getD j false=true\/j=i:=by
     funext j;refine propext ⟨λh=>?_,λh=>?_⟩
     ·by_cases e:i=j
      ·exact .inr e.symm
      ·rw[getD_set_ne false e] at h;exact .inl h
     ·rcases h with h | rfl
      ·exact getD_set_true h
      ·rw[al,bx,t8 rfl,t8 gt];rfl
    rw[this];exact hJ'
 have hrep:∀j,(d0 ops.size false).getD j false=false:=by
  intro j;rw[al,Array.getElem?_replicate];split<;>rfl
 refine key ops.size _ st σ0 a0 _ f5 ?_ ?_ ⟨hs0.t,hs0.h.congr rfl,hs0.ds⟩ hF0 hE2
 ·unfold left;exact bk (List.length_filter_le _ _) f5
 ·have hS:(λj=>(d0 ops.size false).getD j false=true)=λ_=>False:=by
   funext j;rw[hrep];simp
  rw[hS];exact h0
def aD.any{P:Program}{ro:Option Nat}{id:Nat}{ops:Array Oper}{st:eU}{Q:Ex->eU->Prop}{ol:List Oper}(hol:ops.toList=ol)(hok:(mN 0 ol&&P.follows .mixedOrders)=true) (hgd:(ol.all λo=>match o.guard with
 | none=>true
 | some _=>false)=true\/∀(i:Nat) (o:Oper),ol[i]?=some o->∀(j:Nat) (b:Bool),o.guard=some (j,b)->j<i) (J:(Nat->Prop)->eU->Prop) (h0:J (λ_=>False) st) (hn:∀L x,J L x->x.n=st.n)
 (hstep:∀L x i o,J L x->Yg ol L i o->aJ P ro (ol.take (i+1)) [o] x (J λj=>L j\/j=i)) (hend:∀L x,J L x->(∀i,i<ol.length->L i)->Q .normal x):aD P ro (.region id ops true) st Q:=by
 intro ρ0 h0' ast hs;refine l9.any hol hok (λL ast'=>∃x,J L x/\kP ρ0 h0' x ast') ⟨st,h0,hs⟩ ?_ ?_ ?_
 ·rintro L ast' ⟨x,hJ,hx⟩;rw[hx.1,hn L x hJ,hs.1]
 ·rintro L ast' i o ⟨x,hJ,hx⟩ hr;refine Yf.of hr.gw ?_ ?_
  ·intro j b hg
   rcases hgd with hgd | hgd
   ·have:=all_eq_true.1 hgd o (List.mem_of_getElem? hr.gw);rw[hg] at this;cases this
   ·exact hgd i o hr.gw j b hg
  ·have:=hstep L x i o hJ hr ρ0 h0' ast' hx;refine this.mono ?_;rintro a' ⟨x',k1,k2,k3⟩;exact⟨x',k1,k3⟩
 ·rintro L ast' ⟨x,hJ,hx⟩ hall;exact⟨x,hend L x hJ hall,hn L x hJ,hx⟩
section
variable {P:Program} {ro:Option Nat} {all l:List Oper} {f:Fm} {n:Nat} {S:List SO} {ds:List jy} {K:eU->Prop}
def aJ.fg{st st':eU}(hf:Fg st st')(h:aJ P ro all l st' K):aJ P ro all l st K:=by
 intro ρ0 h0 ast hs;refine jz.mono (h ρ0 h0 ast (hf.2 ρ0 h0 ast hs)) ?_;rintro a ⟨x,k1,k2,k3⟩;exact⟨x,k1,k2.trans hf.1,k3⟩
def Fg.tmps{f':Fm}(hf:∀i,aP f' i=aP f i\/aP f' i=.any):Fg ⟨f,n,S,ds⟩ ⟨f',n,S,ds⟩:=by
 refine⟨rfl,?_⟩;rintro ρ0 h0 ⟨af,n',hh,ds'⟩ ⟨rfl,rfl,θ,ρ,hR,hF⟩;refine⟨rfl,rfl,θ,ρ,hR,λi=>?_,hF.u⟩
 rcases hf i with e | e
 ·rw[e];exact hF.v i
 ·rw[e,VS];trivial
end
def FA(P:Program)(g:FuncId):Prop:=∀(w:World) (a b:Addr) (la ca lb cb:Nat) (tA tB:TypeId) (kA kB:Nat),a.block≠b.block->w.shape? a.block=some (tA,kA)->w.shape? b.block=some (tB,kB)->kB≠0->w.frozen? a=false->w.frozen? { block:=a.block,off:=kA }=false->
 (callFunc g #[.slice (some a) la ca,.slice (some b) lb cb]).run P w=.ok (.value (.bool false)) w
def Eb{w:World}{b o:Nat}{c:Array Value}{e:TypeId}(h:w.heap[b]?=some (.cells c e (0,0))):w.frozen? { block:=b,off:=o }=false:=by
 unfold World.frozen?;simp only[h];simp
def PY(hg:FA P g){i1 o1 n1 e1 k1 i2 o2 n2 e2 k2 f1 f2:Nat}{cs1 cs2:List AV}{h:H}(hi:i1≠i2)(h1:h.aV.get i1=some (.cells cs1 f1))(h2:h.aV.get i2=some (.cells cs2 f2))(hf:f1≠f2)(hk1:0<k1)(hk2:0<k2)(he:0<cs2.length):
 dK P (.func g) [.slice (some (i1,o1)) n1 e1 (some k1),.slice (some (i2,o2)) n2 e2 (some k2)] h (λa h'=>a=.bool false/\h'=h):=by
 intro σ w args' hv hr;obtain⟨v1,v2,rfl,q1,q2⟩:=HW hv;obtain⟨p1,c1,t1,hp1,hb1,hz1,hl1,_⟩:=hr.cells h1;obtain⟨p2,c2,t2,hp2,hb2,hz2,hl2,_⟩:=hr.cells h2
 cases q1 with
 | @slice _ _ _ _ _ a1 p1' x1 hs1 hle1 hr1 hc1 ha1=>
 cases q2 with
 | @slice _ _ _ _ _ a2 p2' x2 hs2 hle2 hr2 hc2 ha2=>
 rw[hp1] at hs1;cases hs1;rw[hp2] at hs2;cases hs2;have hx1:=hc1 k1 rfl;subst hx1;have hx2:=hc2 k2 rfl;subst hx2;have ha1:=ha1.resolve_right gt;have ha2:=ha2.resolve_right gt;subst ha1;subst ha2
 have hne:p1.b≠p2.b:=by
  intro e
  rcases hr.sep i1 i2 _ _ p1 p2 hi h1 h2 hp1 hp2 e with⟨_,_,f,e3,e4⟩ | ⟨_,_,e3,e4⟩
  ·cases e3;cases e4;exact hf rfl
  ·cases e3
 have hrun:=hg w ⟨p1.b,p1.d+o1,none⟩ ⟨p2.b,p2.d+o2,none⟩ n1 k1 n2 k2 t1 t2 c1.size c2.size hne (by unfold World.shape?;simp only[hb1]) (by unfold World.shape?;simp only[hb2]) gt (Eb hb1) (Eb hb1);rw[hrun];exact⟨.bool false,h,⟨rfl,rfl⟩,σ,.bool false,hr,.refl _ _ _⟩
def Va:SV->Option (Nat×Nat×Nat×Nat×Nat)
 | .buf o n e (some k)=>some (o,0,n,e,k)
 | .sub o off n e (some k)=>some (o,off,n,e,k)
 | _=>none
variable{ds:List jy}{d:Nat}
def aJ.ZL{K:eU->Prop}{c:Call}{v1 v2:SV}{a1 b1 n1 e1 k1 a2 b2 n2 e2 k2:Nat}{cs1 cs2:List SV}(hg:FA P g)(hst:eD all n [o]=true)(hop:o.op=.call c)(hdst:o.dst=some d)(hw:cH all f o.guard=some true)(hdy:gG (.call c)=true)
 (hc:jL P f c=some (g,[v1,v2])) (hv1:Va v1=some (a1,b1,n1,e1,k1)) (hv2:Va v2=some (a2,b2,n2,e2,k2)) (hS1:S[a1]?=some (.cells cs1)) (hS2:S[a2]?=some (.cells cs2)) (hne:a1≠a2) (hk1:0<k1) (hk2:0<k2) (he:0<cs2.length)
 (hk:aJ P ro all l ⟨(d,.a (.bool false))::f,n,S,ds⟩ K):aJ P ro all (o::l) ⟨f,n,S,ds⟩ K:=by
 rintro ρ0 h0 ⟨af,n',h,ds'⟩ ⟨rfl,rfl,θ,ρ,hR,hF⟩
 have hd:blt d n'=true:=by
  have:=(eR hst).1;rw[hdst] at this;exact this
 obtain⟨xs,cap,h1,h2⟩:=Bi hF hc;obtain⟨L1,as1,q1,q2,q3⟩:=hR.obj a1 _ hS1 f7;obtain⟨L2,as2,r1,r2,r3⟩:=hR.obj a2 _ hS2 f7;have sp:=hR.sep a1 a2 _ _ hne hS1 f7 hS2 f7
 have hid:(θ a1).id≠(θ a2).id:=by
  rcases L1.e with e | e<;>rcases L2.e with e' | e'<;>rw[e,e']
  ·exact sp.xx
  ·exact sp.xy
  ·exact sp.yx
  ·exact sp.yy
 rw[aG] at h2;obtain⟨x1,rr,hxs,w1,h3⟩:=h2;rw[aG] at h3;obtain⟨x2,r',rfl,w2,h4⟩:=h3;rw[aU] at h4;subst h4
 have own:∀{v:SV} {a b m e k:Nat} {x:AV},Va v=some (a,b,m,e,k)->VS θ ρ v x->x=.slice (some ((θ a).id,b)) m e (some k):=by
  intro v a b m e k x hv hx;unfold Va at hv;split at hv
  ·cases hv;rw[VS] at hx;exact hx
  ·cases hv;rw[VS] at hx;exact hx
  ·cases hv
 have e1:=own hv1 w1;have e2:=own hv2 w2;subst e1;subst e2;refine .c hop hdst (cE hF (dR hst hw)) hdy hd h1 hxs (PY hg hid q1 r1 sp.f hk1 hk2 (by rw[r2.length];exact he)) ?_;rintro v h' ⟨rfl,rfl⟩;exact hk ρ0 h0 _ ⟨rfl,rfl,θ,ρ,hR,hF.put (fY hd) (by rw[VS])⟩
section
variable {θ θ':Nat->Loc} {ρ ρ0 ρ':lD} {P:Program} {h0:En} {h h1:H} {S S' S0:List SO}
def Al(B:Nat)(f:Fm):Bool:=f.all λp=>blt p.1 B
def vM{B:Nat}:∀{f:Fm},Al B f=true->∀{i:Nat},B<=i->aP f i=.any
 | [],_,i,_=>rfl
 | (d,v)::f,h,i,hi=>by
  unfold Al at h;rw[cn,ac] at h;have h1:=fY h.1;show(if d=i then v else aP f i)=.any;rw[ul (by simp only at h1;omega)];exact vM h.2 hi
def Ie{d:jy}{j:Nat}(h:j<ds.length):Xh (d::ds) j=Xh ds j:=by
 unfold Xh;rw[fo,dv (by simpa using h)]
def Ny{d:jy}{f:Fn}(h:d.fn=some f):Xh (d::ds) ds.length=.fn f d.args d.cap:=by
 unfold Xh;rw[fo,b0 f5,List.length_reverse,gb];simp[h]
def rO(w:Nat->AV)(ds:List jy)(h:i<7000000):Az w ds i=w i:=by
 cases ds with
 | nil=>rfl
 | cons d ds=>rw[Az,ul gt]
def FR.push{af:Nat->AV}{w:Nat->AV}(d:jy)(hF:FR θ ρ (aP f) af n (Az w ds))(hl:Al (7000000+ds.length) f=true):FR θ ρ (aP f) af n (Az w (d::ds)):=by
 refine⟨λi=>?_,λi hi=>by have:=hF.u i hi;rw[rO _ _ gt] at this ⊢;exact this⟩
 have key:Az w (d::ds) i=Az w ds i\/aP f i=.any:=by
  by_cases h1:i<7000000
  ·rw[rO _ _ h1,rO _ _ h1];exact .inl rfl
  ·by_cases h2:i-7000000<ds.length
   ·cases ds with
    | nil=>simp at h2
    | cons d' ds=>
     rw[Az,Az,t8 gt,t8 gt,Ie h2];exact .inl rfl
   ·exact .inr (vM hl (show 7000000+ds.length<=i by omega))
 rcases key with e | e
 ·rw[e];exact hF.v i
 ·rw[e,VS];trivial
def Ox(B:Nat):Fm->Fm
 | []=>[]
 | (d,v)::f=>(d+B,v)::Ox B f
def w9(B:Nat):Fm->Fm
 | []=>[]
 | (d,v)::f=>if B<=d then (d-B,v)::w9 B f else w9 B f
def vq{B:Nat}:∀(f:Fm) (i:Nat),aP (Ox B f) i=if B<=i then aP f (i-B) else .any
 | [],i=>by split<;>rfl
 | (d,v)::f,i=>by
  show(if d+B=i then v else aP (Ox B f) i)=if B<=i then (if d=i-B then v else aP f (i-B)) else .any
  rw[vq f i];by_cases h:B<=i
  ·rw[t8 h,t8 h];by_cases e:d+B=i
   ·rw[t8 e,t8 gt]
   ·rw[ul e,ul gt]
  ·rw[ul h,ul h,ul gt]
def vp{B:Nat}:∀(f:Fm) (i:Nat),aP (w9 B f) i=aP f (B+i)
 | [],i=>rfl
 | (d,v)::f,i=>by
  show aP (if B<=d then (d-B,v)::w9 B f else w9 B f) i=if d=B+i then v else aP f (B+i)
  by_cases h:B<=d
  ·rw[t8 h];show(if d-B=i then v else aP (w9 B f) i)=_;rw[vp f i];by_cases e:d=B+i
   ·rw[t8 e,t8 gt]
   ·rw[ul e,ul gt]
  ·rw[ul h,vp f i,ul gt]
def FW{g:Fm}(hl:Al B f=true)(hi:B<=i):aP (f++g) i=aP g i:=
 vn f g i λv hm=>by
  unfold Al at hl;rw[all_eq_true] at hl;have:=fY (hl _ hm);simp only at this;omega
def FV{g:Fm}(hg:aP g i=.any):aP (f++g) i=aP f i:=by
 induction f with
 | nil=>exact hg
 | cons p f ih=>
  obtain⟨d,v⟩:=p
  show(if d=i then v else aP (f++g) i)=if d=i then v else aP f i
  rw[ih]
def GB:List Tmp->List SV->Fm->Fm
 | k::ks,v::vs,f=>GB ks vs ((k,v)::f)
 | _,_,f=>f
def NY{n:Nat}:∀{ks:List Tmp} {vs:List SV} {f:Fm},ks.all (λk=>blt k n)=true->∀{i:Nat},n<=i->aP (GB ks vs f) i=aP f i
 | [],_,_,_,_,_=>by rw[GB];intros;contradiction
 | k::ks,[],_,_,_,_=>by rw[GB];intros;contradiction
 | k::ks,v::vs,f,h,i,hi=>by
  rw[cn,ac] at h;have:=fY h.1;rw[GB,NY h.2 hi];show(if k=i then v else aP f i)=_;rw[ul (λe:k=i=>t7 (e▸this:i<n) (Nat.not_lt.2 hi))]
def wC{n:Nat}:∀{ks:List Tmp} {vs:List SV} {aS:List AV} {f:Fm} {t:Tr AV},ks.length=vs.length->df θ ρ vs aS->ks.all (λk=>blt k n)=true->(∀i,i<n->VS θ ρ (aP f i) (Qg t i))->
 ∃t1,kH (ks.zip aS) n t=some t1/\∀i,i<n->VS θ ρ (aP (GB ks vs f) i) (Qg t1 i)
 | [],[],aS,f,t,_,hv,_,hf=>by
  rw[aU] at hv;subst hv;exact⟨t,rfl,hf⟩
 | k::ks,v::vs,aS,f,t,hl,hv,hk,hf=>by
  rw[aG] at hv;obtain⟨a,r,rfl,h1,h2⟩:=hv;rw[cn,ac] at hk
  have ih:=wC (f:=(k,v)::f) (t:=t.put k (some a)) (by simpa using hl) h2 hk.2 (by
   intro i hi;show VS θ ρ (if k=i then v else aP f i) (Qg _ i);unfold Qg;rw[dS];by_cases e:i=k
   ·subst e;rw[t8 rfl,t8 rfl];exact h1
   ·rw[ul (λh=>e h.symm),ul e];exact hf i hi)
  obtain⟨t1,g1,g2⟩:=ih;refine⟨t1,?_,g2⟩;rw[List.zip_cons_cons,kH,hk.1,ah];exact g1
def RS.AS{o:Nat}{c:hY}{ls:LoopState}{p:Option Code}(hR:RS θ ρ0 ρ h0 h S)(hS:S[o]?=some (.loop c ls p f)):
 h.rl c.id=some (ls,p,c.t,c.n,c.ps,c.a,c.b,c.d)/\(∀i,i<c.n->VS θ ρ (aP f i) (Qg c.t i))/\∀ls2 p2,RS θ ρ0 ρ h0 (h.set c.id (.loop ls2 p2 c.t c.n c.ps c.a c.b c.d)) (S.set o (.loop c ls2 p2 f)):=by
 obtain⟨hL,hid,h1,h2⟩:=hR.obj o _ hS f7;refine⟨by unfold H.rl;rw[<-hid,h1],h2,λls2 p2=>?_⟩
 have hidr:¬h0.pr c.id:=by
  rw[<-hid]
  rcases hL.e with e | e<;>rw[e]
  ·exact hL.x.1
  ·exact hL.y.1
 have hidn:c.id<h.next:=by
  rw[<-hid]
  rcases hL.e with e | e<;>rw[e]
  ·exact hL.x.2
  ·exact hL.y.2
 have hg:∀v x,VS θ ρ v x->VS (iH θ o (θ o)) ρ v x:=λv x hv=>hv.ids λp=>by
  by_cases hp:p=o
  ·subst hp;rw[cF]
  ·rw[bT _ _ hp]
 have heq:iH θ o (θ o)=θ:=by
  funext p;by_cases hp:p=o
  ·subst hp;rw[cF]
  ·rw[bT _ _ hp]
 have get:∀j,j≠c.id->(h.set c.id (.loop ls2 p2 c.t c.n c.ps c.a c.b c.d)).aV.get j=h.aV.get j:=λj hj=>bm _ _ hj
 have:=hR.C6 (h':=h.set c.id (.loop ls2 p2 c.t c.n c.ps c.a c.b c.d)) (S':=S.set o (.loop c ls2 p2 f)) (o:=o) (so':=.loop c ls2 p2 f) (L':=θ o) (g:=λv=>v) (be _) (λj hj=>get j (λe=>hidr (e▸hj))) (λ_ _=>rfl)
  (oX hR.lw (hR.ok.lo _ hidr)) (bk (ep _ _).1 hR.ln) hL hg
  (λp so hp h3 h4=>by
   have sp:=hR.sep p o so _ hp h3 h4 hS f7;obtain⟨k,_⟩:=hR.obj p so h3 h4;refine⟨get _ ?_,rfl,sp⟩;rw[<-hid]
   rcases k.e with e1 | e1<;>rcases hL.e with e2 | e2<;>rw[e1,e2]
   ·exact sp.xx
   ·exact sp.xy
   ·exact sp.yx
   ·exact sp.yy)
  (λid ob hi=>by
   obtain⟨r1,r2,r3⟩:=hR.row id ob hi;have:=r3 o _ hS f7;refine⟨get _ ?_,this⟩;rw[<-hid]
   rcases hL.e with e | e<;>rw[e]
   ·exact this.1
   ·exact this.2)
  (by
   rw[heq];refine⟨hid,?_,h2⟩;rw[hid]
   exact da _ _ _)
  (λp hp=>by
   rw[bt (λh=>hp h.symm)]
   cases S[p]? with
   | none=>rfl
   | some s=>rw[m6];exact n9 some (vO s).symm)
  (by rw[bd (aR hS)])
 rw[heq] at this;exact this
end
section
variable {θ θ':Nat->Loc} {ρ ρ0 ρ':lD} {P:Program} {h0:En} {h h1:H} {S S' S0:List SO}
abbrev laid:Nat:=20000000
theorem aJ.y{K:eU->Prop}{f1:Fm}{oo:Nat}{cl:Call}{x:Operand}{c:hY}{pend:Option Code}(hst:eD all n [o]=true)(hop:o.op=.call cl)(hdst:o.dst=some d)(hw:cH all f o.guard=some true)(hdy:gG (.call cl)=true)
 (hcal:cl.callee=.value x) (hx:fp f x=some (.a (.fn (.yield c.id) [] []))) (hargs:pM f cl.args.toList=some vs) (hS:S[oo]?=some (.loop c .ready pend f1)) (hps:c.ps.toList.length=vs.length) (hlow:Al c.n f1=true) (hn1:c.n<=1000000) (hpar:c.ps.toList.all (λk=>blt k c.n)=true)
 (hbody:∀ro',aD P ro' c.a ⟨GB c.ps.toList vs (f1++Ox laid f),c.n,S,[]⟩ λex st=>ex=.normal/\∃oo2 pend2 f2,st.S[oo2]?=some (.loop c .ready pend2 f2)/\
  aD P ro' c.b ⟨st.f,c.n,st.S.set oo2 (.loop c .busy pend2 f2),st.ds⟩ λex st=>st.ds=[]/\∃oo3 ls p3 f3,st.S[oo3]?=some (.loop c ls p3 f3)/\
   aJ P ro all l ⟨(d,.a (.bool (xD ex)))::w9 laid st.f,n,st.S.set oo3 (.loop c (xE ex) (xC ex) f3),ds⟩ K):aJ P ro all (o::l) ⟨f,n,S,ds⟩ K:=by
 rintro ρ0 h0 ⟨af,n',h,ds'⟩ ⟨rfl,rfl,θ,ρ,hR,hF⟩
 have hd:blt d n'=true:=by
  have:=(eR hst).1;rw[hdst] at this;exact this
 obtain⟨a,ha,ka⟩:=bE hF hx;rw[VS] at ka;subst ka;obtain⟨aS,hs,ks⟩:=mg hF hargs
 have hcall:qW P (dy af n') cl=some (.yield c.id,aS,[]):=by
  unfold qW;rw[hcal];simp only;rw[show ev (dy af n') x=_ from ha];simp only;rw[show Aj (dy af n') cl.args.toList=_ from hs];rfl
 obtain⟨hlo,hfr,_⟩:=hR.AS hS
 obtain⟨t1,hp1,hp2⟩:=wC (n:=c.n) (f:=f1++Ox laid f) hps ks hpar (λi hi=>by
  rw[FV (by rw[vq,ul (by unfold laid;omega)])];exact hfr i hi)
 obtain⟨w',hw'⟩:∃w':Nat->AV,w'=λi=>if laid<=i then (if i-laid<n' then af (i-laid) else Az h0.w ds' (i-laid)) else kJ:=⟨_,rfl⟩
 have hst1:kP ρ0 { h0 with w:=w' } ⟨GB c.ps.toList vs (f1++Ox laid f),c.n,S,[]⟩ ⟨Qg t1,c.n,h,[]⟩:=by
  refine⟨rfl,rfl,θ,ρ,hR.w _,λi=>?_,λi hi=>?_⟩
  ·simp only;by_cases hi:i<c.n
   ·rw[t8 hi];exact hp2 i hi
   ·have hge:c.n<=i:=a9 hi;rw[ul hi,NY hpar hge,FW hlow hge,vq];show VS θ ρ _ (w' i);by_cases hb:laid<=i
    ·rw[t8 hb,hw'];simp only;rw[t8 hb];exact hF.v (i-laid)
    ·rw[ul hb,VS];trivial
  ·show w' i=kJ;rw[hw'];simp only;rw[ul (by unfold laid;omega)]
 have hlen:=ks.length;refine jz.c hop hdst (cE hF (dR hst hw)) hdy hd hcall (ei _) (Q:=λv h'=>∃(bb:Bool) (f':Fm) (S':List SO),v=.bool bb/\aJ P ro all l ⟨(d,.a (.bool bb))::f',n',S',ds'⟩ K/\∃θ' ρ',RS θ' ρ0 ρ' h0 h' S'/\FR θ' ρ' (aP f') af n' (Az h0.w ds')) ?_ ?_
 ·refine dK.yield hlo (by rw[hps,hlen]) hp1 (f1:=Qg t1) (λ_ _=>rfl) ?_;refine(hbody (some c.id) ρ0 _ _ hst1).mono ?_;rintro ex ⟨af2,n2,h2,ds2⟩ ⟨st,⟨rfl,oo2,pend2,f2,hS2,hb⟩,hn2,e1,e2,θ2,ρ2,hR2,hF2⟩;simp only at e1 e2 hR2 hF2 hn2;obtain⟨hlo2,_,hset2⟩:=hR2.AS hS2;refine⟨rfl,pend2,c.t,c.n,c.ps,c.a,c.b,c.d,hlo2,?_⟩;have hn3:n2=c.n:=e1.trans hn2;subst hn3;have hb2:=hb ρ0 { h0 with w:=w' } ⟨af2,c.n,h2.set c.id (.loop .busy pend2 c.t c.n c.ps c.a c.b c.d),ds2⟩ ⟨rfl,e2,θ2,ρ2,hset2 _ _,by rw[<-e1] at hF2;exact hF2⟩;refine hb2.mono ?_;rintro ex3 ⟨af3,n3,h3,ds3⟩ ⟨st3,⟨hds3,oo3,ls,p3,f3,hS3,hK⟩,hn3,e3,e4,θ3,ρ3,hR3,hF3⟩;simp only at e3 e4 hR3 hF3 hn3;rw[hds3] at e4;subst e4;obtain⟨hlo3,_,hset3⟩:=hR3.AS hS3;refine⟨rfl,ls,p3,c.t,c.n,c.ps,c.a,c.b,c.d,hlo3,xD ex3,w9 laid st3.f,_,rfl,hK,θ3,ρ3,(hset3 _ _).w h0.w,λi=>?_,hF.u⟩;rw[vp];have:=hF3.v (laid+i);rw[ul (by rw[hn3];unfold laid;omega)] at this
  have e5:Az w' [] (laid+i)=if i<n' then af i else Az h0.w ds' i:=by
   show w' (laid+i)=_;rw[hw'];simp only;rw[t8 gt,cf]
  rw[e5] at this;exact this
 ·rintro v h' ⟨bb,f',S',rfl,hK,θ',ρ',hR',hF'⟩;exact hK ρ0 h0 _ ⟨rfl,rfl,θ',ρ',hR',hF'.put (fY hd) (by rw[VS])⟩
def RS.Sk{so:SO}{ob:AO}(hR:RS θ ρ0 ρ h0 h S)(hob:oG (iH θ S.length ⟨h.next,h.next,h.next,h.next⟩) ρ { h with aV:=h.aV.put h.next (some ob),next:=h.next+1 } ⟨h.next,h.next,h.next,h.next⟩ (cx S.length so)):
 RS (iH θ S.length ⟨h.next,h.next,h.next,h.next⟩) ρ0 ρ h0 { h with aV:=h.aV.put h.next (some ob),next:=h.next+1 } (iX S so):=by
 have hpr:∀j,h0.pr j->j<h.next:=λj hj=>ay (hR.ok.pr j hj) hR.nx;have hpf:∀j,h0.pf j->j<h.next:=λj hj=>ay (hR.ok.pf j hj) hR.nx;have hobj:∀j,j<h.next->(h.aV.put h.next (some ob)).get j=h.aV.get j:=λj hj=>bm _ _ gt;refine hR.C6 (g:=aW S.length) (so':=cx S.length so) (by show h.next<=h.next+1;omega) (λj hj=>hobj j (hpr j hj)) (λ_ _=>rfl) hR.lw (Nat.le_succ_of_le hR.ln) ⟨.inl rfl,⟨λhj=>er _ (hpr _ hj),b9 _⟩,⟨λhj=>er _ (hpr _ hj),b9 _⟩,⟨λhj=>er _ (hpf _ hj),b9 _⟩⟩ (λv x hv=>jO (λp hp=>bT _ _ hp) hv) ?_ ?_ hob ?_ ?_
 ·intro p s hp hs hsg;obtain⟨⟨k1,k2,k3,k4⟩,_⟩:=hR.obj p s hs hsg;refine⟨hobj _ (by rcases k1 with e | e<;>omega),rfl,⟨?_,?_,?_,?_,?_⟩⟩<;>(simp only;omega)
 ·intro id ob' hi;have:=(hR.row id ob' hi).1;exact⟨hobj id this,by simp only;omega,by simp only;omega⟩
 ·intro p hp;unfold iX
  have hl:(eC S.length S).length=S.length:=by unfold eC;rw[bh]
  rw[cv];split
  ·exact tj _ _ _
  ·rename_i hlt;rw[hl] at hlt ⊢;have:S[p]?=none:=a7 gt;rw[this,a7 (by simp;omega)];rfl
 ·unfold iX
  have hl:(eC S.length S).length=S.length:=by unfold eC;rw[bh]
  rw[b0 gt,hl,gb];rfl
def Xw(P:Program)(g:FuncId)(vs:List SV)(S:List SO)(K:List SO->Prop):Prop:=∃(os:List Nat) (ws:List SV) (S0:List SO) (mv:List Nat) (Q:SV->List SO->Prop),SC P g ws S0 mv Q/\me (kM os S.length) ws=vs/\os.length=S0.length/\os.Nodup/\
 (∀(i:Nat) so,S0[i]?=some so->∃o,os[i]?=some o/\S[o]?=some (oI (kM os S.length) so))/\∀r S',Q r S'->xp S'.length S'=true/\K (gu S os mv S')
def Sj(S:List SO)(so:SO):(iX S so).length=S.length+1:=by unfold iX eC;simp
def Lw(o:Nat)(v:SV):aW o (aW o v)=aW o v:=by
 unfold aW;cases h:names o v
 ·simp[h]
 ·simp[names]
def aD.wc(hng:uZ P){g:Operand}{ps:Array Tmp}{assign body:Code}{f f1:Fm}{n:Nat}{ds:List jy}{Q:Ex->eU->Prop}{fid:FuncId}{fn':Func}{first cap:List SV}(hg:fp f g=some (.fn fid first cap))(hfn:P.funcs[fid]?=some fn')(hb:fn'.body.isSome=true)
 (hf1:uY (eg (S.length+1) (eg S.length f)) f1)
 (hk:∀(N:Nat) (c:hY),c.id=N+1->c.n=n->c.ps=ps->c.a=assign->c.b=body->Xw P fid ((first++[SV.a (.fn (.yield (N+1)) [] [])]++cap).map λv=>aW (S.length+1) (aW S.length v)) (iX (iX S (.pT N)) (.loop c .ready none f1)) λS2=>∃oo ls p f2,S2[oo]?=some (.loop c ls p f2)/\ls≠.busy/\Al n f2=true/\
  match p with
  | none=>Q .normal ⟨f2,n,S2.set oo .gone,{ fn:=none,sZ:=N,args:=[],cap:=[] }::ds⟩
  | some cd=>aD P none cd ⟨f2,n,S2.set oo .gone,{ fn:=none,sZ:=N,args:=[],cap:=[] }::ds⟩ Q):aD P none (.rangeFunc g ps assign body) ⟨f,n,S,ds⟩ Q:=by
 rintro ρ0 h0 ⟨af,n',⟨O,F,N,lw⟩,ds'⟩ ⟨rfl,rfl,θ,ρ,hR,hF⟩;obtain⟨gv,hgv,kgv⟩:=bE hF hg;rw[VS] at kgv;obtain⟨xs,ys,rfl,kx,ky⟩:=kgv;simp only at hR hF;obtain⟨c,hc⟩:∃c:hY,c=⟨N+1,dy af n',n',ps,assign,body,N⟩:=⟨_,rfl⟩;have hkc:=hk N c (by rw[hc]) (by rw[hc]) (by rw[hc]) (by rw[hc]) (by rw[hc]);obtain⟨os,ws,S0,mv,Qc,hsc,hws,hKl,hnd,hos,hpost⟩:=hkc;have hR1:=hR.Sk (so:=.pT N) (ob:=.pT false) ⟨rfl,da _ _ _⟩;simp only at hR1;have hl1:(iX S (SO.pT N)).length=S.length+1:=Sj _ _
 have hR2:=hR1.Sk (so:=.loop c .ready none f1) (ob:=.loop .ready none (dy af n') n' ps assign body N) (by
  refine⟨by rw[hc],?_,?_⟩
  ·simp only;rw[da,hc]
  ·intro i hi
   have hn:c.n=n':=by rw[hc]
   rw[hn] at hi
   have e1:Qg c.t i=af i:=by
    rw[hc];unfold Qg;simp only;rw[oz _ _ _ hi];rfl
   rw[e1,jl,hl1];have hv:=hF.v i;rw[t8 hi] at hv;have h2:VS (iH θ S.length ⟨N,N,N,N⟩) ρ (aW S.length (aP f i)) (af i):=jO (λp hp=>bT _ _ hp) hv;have h3:VS (iH (iH θ S.length ⟨N,N,N,N⟩) (S.length+1) ⟨N+1,N+1,N+1,N+1⟩) ρ (aW (S.length+1) (aW S.length (aP f i))) (af i):=jO (λp hp=>bT _ _ hp) h2
   rcases hf1.get i with e | e
   ·rw[e,jl,jl];rw[Lw];exact h3
   ·rw[e]
    have:aW (S.length+1) SV.any=.any:=by unfold aW;simp[names]
    rw[this,VS];trivial)
 rw[hl1] at hR2;obtain⟨SN,hSN⟩:∃SN,SN=iX (iX S (.pT N)) (.loop c .ready none f1):=⟨_,rfl⟩;rw[<-hSN] at hR2 hws hos hpost
 have hos2:∀o∈os,o<SN.length:=by
  intro o ho;obtain⟨i,hi1,hi2⟩:=dd ho
  have:i<S0.length:=by omega
  obtain⟨o',e1,e2⟩:=hos i _ (jp this);rw[jp hi1] at e1;cases e1;rw[<-hi2];exact aR e2
 have hr:∀(i:Nat) so,S0[i]?=some so->SN[kM os SN.length i]?=some (oI (kM os SN.length) so):=by
  intro i so e;obtain⟨o,e1,e2⟩:=hos i so e;rw[om e1];exact e2
 have hargs:df (iH (iH θ S.length ⟨N,N,N,N⟩) (S.length+1) ⟨N+1,N+1,N+1,N+1⟩) ρ ((first++[SV.a (.fn (.yield (N+1)) [] [])]++cap).map λv=>aW (S.length+1) (aW S.length v)) (xs++[.fn (.yield (N+1)) [] []]++ys):=by
  have h1:df θ ρ (first++[SV.a (.fn (.yield (N+1)) [] [])]++cap) (xs++[.fn (.yield (N+1)) [] []]++ys):=(kx.app (by rw[aG];exact⟨_,_,rfl,by rw[VS],by rw[aU]⟩)).app ky;exact h1.map λv x hv=>jO (λp hp=>bT _ _ hp) (jO (θ':=iH θ S.length ⟨N,N,N,N⟩) (λp hp=>bT _ _ hp) hv)
 rw[<-hws] at hargs;refine l9.wc hng hgv hfn hb (Q1:=λlp v h'=>∃r S' θ' ρ' h1,Qc r S'/\h'={ h1 with low:=ic lw h1.low }/\RS θ' ρ ρ' (Rw (λp=>(iH (iH θ S.length ⟨N,N,N,N⟩) (S.length+1) ⟨N+1,N+1,N+1,N+1⟩) (kM os SN.length p)) h0 ⟨(O.put N (some (.pT false))).put (N+1) (some lp),F,N+2,lw⟩ S0) h1 S'/\VS θ' ρ' r v/\S0.length<=S'.length/\∀i,i<S0.length->i∉mv->(θ' i).id=((iH (iH θ S.length ⟨N,N,N,N⟩) (S.length+1) ⟨N+1,N+1,N+1,N+1⟩) (kM os SN.length i)).id) ?_ ?_
 ·rintro lp rfl;exact hsc _ _ ρ _ _ rfl (hR2.enter hr (λi j=>GI hnd hos2)) ((df.rn _).1 hargs)
 ·rintro lp v h' rfl ⟨r,S',θ',ρ',h1,k1,rfl,k3,k4,k5,k6⟩;obtain⟨b2,hq⟩:=hpost r S' k1;obtain⟨j1,_,_⟩:=R5 (low:=ic lw h1.low) hR2 hr hKl hnd hos2 k3 k5 k6 b2 rfl;obtain⟨oo,ls,p,f2,hS2,hls,hlow2,hQ⟩:=hq;obtain⟨hlo,hfr,hset⟩:=j1.AS hS2
  have hcid:c.id=N+1:=by rw[hc]
  rw[hcid] at hlo hset
  have hstn:∀p2,kP ρ0 h0 ⟨f2,n',(gu SN os mv S').set oo .gone,{ fn:=none,sZ:=N,args:=[],cap:=[] }::ds'⟩ ⟨af,n',H.set { h1 with low:=ic lw h1.low } (N+1) (.loop .exhausted p2 c.t c.n c.ps c.a c.b c.d),{ fn:=none,sZ:=N,args:=[],cap:=[] }::ds'⟩:=by
   intro p2;refine⟨rfl,rfl,_,_,(hset .exhausted p2).sub ?_,λi=>?_,λi hi=>by rw[rO _ _ gt];have:=hF.u i hi;rw[rO _ _ gt] at this;exact this⟩
   ·intro o so e1 e2;by_cases e:o=oo
    ·subst e;rw[bd (aR hS2)] at e1;cases e1;exact t7 rfl e2
    ·rw[bt (λh=>e h.symm)] at e1 ⊢;exact e1
   ·by_cases hi:i<n'
    ·rw[t8 hi]
     have hn:c.n=n':=by rw[hc]
     have:=hfr i (by rw[hn];exact hi)
     have e1:Qg c.t i=af i:=by
      rw[hc];unfold Qg;simp only;rw[oz _ _ _ hi];rfl
     rw[e1] at this;exact this
    ·rw[vM hlow2 (a9 hi),VS];trivial
  refine⟨ls,p,c.t,c.n,c.ps,c.a,c.b,c.d,hlo,hls,?_⟩
  cases p with
  | none=>exact⟨_,hQ,rfl,hstn none⟩
  | some cd=>exact hQ ρ0 h0 _ (hstn (some cd))
end
def HM(P:Program):List jy->H->(H->Prop)->Prop
 | [],h,K=>K h
 | d::ds,h,K=>match d.fn with
  | none=>h.aV.get d.sZ=some (.pT false)/\HM P ds (h.set d.sZ (.pT true)) K
  | some (.func g)=>∃fn c m,P.funcs[g]?=some fn/\fn.body=some c/\(d.args++d.cap).length+(fn.ntmps-(d.args++d.cap).length)=m/\
   l9 P none c ⟨tM (d.args++d.cap),m,h,[]⟩ (λe st=>lP e=true/\st.ds=[]/\(∃v,wh P (dy st.f st.n) st.h fn.results.toList=some v)/\HM P ds st.h K)
  | _=>False
def x3{P:Program}(hng:uZ P){n:Nat}{fn:Func}{a:Act}{t:Tr AV}{N:Nat}{R:Ending->World->Prop}{σ0:Sg}{h0:H}{w0:World}{K:H->Prop}:∀(ds:List jy) (h:H),HM P ds h K->
 ∀(ds':List Deferred) (σ:Sg) (w:World),VA σ ds ds'->HR σ h w->TR σ t N a.tmps->Ext σ0 σ h0 h w0 w->
 (∀h' σ' w',K h'->HR σ' h' w'->TR σ' t N a.tmps->Ext σ0 σ' h0 h' w0 w'->∃v,(results fn a.tmps).run P w'=.ok v w'/\R (.returned v) w')->
 LeavesInM Fence.wide n P fn a.tmps R ds' .returning w
 | [],h,ho,ds',σ,w,hd,hr,ht,hE,hR=>by
  cases ds' with
  | cons d ds=>exact hd.elim
  | nil=>exact hR h σ w ho hr ht hE
 | d::ds,h,ho,ds',σ,w,hd,hr,ht,hE,hR=>by
  cases ds' with
  | nil=>exact hd.elim
  | cons d' ds'=>
   obtain⟨hd1,hd2⟩:=hd;rw[HM] at ho;unfold Xd at hd1
   cases hdf:d.fn with
   | none=>
    rw[hdf] at hd1 ho;simp only at hd1 ho;obtain⟨q,hq,rfl⟩:=hd1;obtain⟨hob,ho⟩:=ho;obtain⟨q',hq',hor⟩:=hr.obj _ _ hob;rw[hq] at hq';cases hq';have hor:w.heap[q.b]?=some (.deferred (some [])):=hor;obtain⟨s1,s2⟩:=hr.ly (o':=.pT true) (ob:=.deferred none) hob rfl rfl hq rfl;refine⟨by simp,.inl ⟨q.b,_,rfl,?_,x3 hng ds _ ho ds' σ _ hd2 s1 ht (hE.trans s2) hR⟩⟩;simp only[Instr.takeDeferred,n5,cD hor f5,n7,eZ hor f5,m9]
   | some f=>
    rw[hdf] at hd1 ho;simp only at hd1;obtain⟨g,cap',rfl,htar,hargs,hcap⟩:=hd1;simp only at ho;obtain⟨fn',c,m,hfn,hbody,hm,hwp⟩:=ho
    have hall':VL σ (d.args++d.cap) (d'.args++cap').toList:=by
     simp only[Array.toList_append];exact hargs.append hcap
    have hcall:=eM hng hfn (by rw[hbody];rfl) (d'.args++cap') w;refine⟨by simp,.inr ⟨λh=>by simp[Fence.wide] at h,.func g,cap',g,d'.args++cap',htar,?_,λ_ _=>trivial,?_⟩⟩
    ·rw[htar];simpa only[invoke] using hcall
    ·subst hm;have hw:=hwp Fence.wide (n-1) σ { tmps:=(d'.args++cap')++d0 (fn'.ntmps-(d'.args++cap').size) undef,defers:=[] } w ⟨Ni hall' _,hr,trivial⟩ rfl;have hD:=callsDIn_of_wp (F:=Fence.wide) (n:=n-1) (u:=.returning) (R:=λe w'=>∃v h' σ',e=.returned v/\HM P ds h' K/\HR σ' h' w'/\Ext σ σ' h h' w w') hfn hbody trivial (wpIn_mono hw ?_)
     ·refine⟨hD.1,λcc cs hm hroom=>?_⟩;obtain⟨e,u',w',fr,⟨rfl,v,h',σ',rfl,q1,hh',hext⟩,hrest⟩:=hD.2 cc cs hm hroom;refine⟨.returned v,_,w',fr,?_,hrest⟩;have hset:settle .returning=.returning:=rfl;simp only[hset];exact x3 hng ds h' q1 ds' σ' w' (hd2.mono hext.le) hh' (ht.mono hext.le) (hE.trans hext) hR
     ·rintro e a' w' ⟨ex,st',⟨hend,hds,⟨rr,hres⟩,h1⟩,hex,σ',hs',hE',hn'⟩
      have hde:a'.defers=[]:=by
       have:=hs'.ds;rw[hds] at this
       cases had:a'.defers with
       | nil=>rfl
       | cons x y=>rw[had] at this;exact this.elim
      obtain⟨v,k1,k2⟩:=wi hs'.sr.t hs'.h hres
      have:bodyPost P fn' (λe w'=>∃v h' σ',e=.returned v/\HM P ds h' K/\HR σ' h' w'/\Ext σ σ' h h' w w') e a' w':=by
       rcases vf hend with rfl | rfl
       ·have:e=.normal:=hex;subst this;exact⟨hde,v,k1,v,st'.h,σ',rfl,h1,hs'.h,hE'⟩
       ·have:e=.ret:=hex;subst this;exact⟨hde,v,k1,v,st'.h,σ',rfl,h1,hs'.h,hE'⟩
      exact this
def dK.tU(hng:uZ P){fn:Func}{c:Code}{args:List AV}{h:H}{Q:AV->H->Prop}(hf:P.funcs[g]?=some fn)(hb:fn.body=some c)(hn:args.length+(fn.ntmps-args.length)=n)
 (hw:l9 P none c ⟨tM args,n,{ h with low:=h.next },[]⟩ λe st=>lP e=true/\HM P st.ds st.h λh''=>∃v,wh P (dy st.f st.n) h'' fn.results.toList=some v/\Q v { h'' with low:=ic h.low h''.low }):dK P (.func g) args h Q:=by
 intro σ w args' hv hr;rw[eM hng hf (by rw[hb];rfl)];have hr1:HR σ { h with low:=h.next } w:=⟨hr.obj,hr.fresh,hr.sep,hr.bX,be _⟩;subst hn;have hw:=hw Fence.wide 0 σ { tmps:=args'++d0 (fn.ntmps-args'.size) undef,defers:=[] } w ⟨Ni hv _,hr1,trivial⟩ rfl;refine callsIn_wide.1 (callsIn_of_wp_marks (F:=Fence.wide) (n:=0) hf hb trivial (wpIn_mono hw ?_));rintro e a' w' ⟨exx,st',⟨hend,hl⟩,hexx,σ',hs',hE',hn'⟩
 have key:LeavesInM Fence.wide 0 P fn a'.tmps (λe w''=>∃v,e=.returned v/\HK σ h w Q v w'') a'.defers .returning w':=by
  refine x3 hng st'.ds st'.h hl a'.defers σ' w' hs'.ds hs'.h hs'.sr.t hE' ?_;rintro h'' σ'' w'' ⟨v,hres,hQ⟩ hh'' ht'' hE'';obtain⟨x,k1,k2⟩:=wi ht'' hh'' hres;have:=lower hr hh'' hE'';exact⟨x,k1,x,rfl,v,_,hQ,σ'',k2,this.1,this.2⟩
 rcases vf hend with rfl | rfl
 ·have:e=.normal:=hexx;subst this;exact key
 ·have:e=.ret:=hexx;subst this;exact key
end
end Go.Ev
