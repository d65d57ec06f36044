/- Lemmas of this claim, each with its conditions. -/
import Derived.Test.YtchdmmkclcnmnaaGreatA5
import Derived.Test.YtchdmmkclcnmnaaGreatA4
import Derived.Test.YtchdmmkclcnmnaaGreatA2
import Derived.Shelf.Bits.Mul64
import Derived.Shelf.SlGeneric
import Derived.Shelf.SortM.Plain
import Derived.Shelf.SortM.SortNone
import Derived.Ground.SlgmProg
import Derived.Test.YtchdmmkclcnmnaaGreatProg
set_option linter.all false
set_option maxHeartbeats 8000000
open Go.Proofs.Tryz (prog func137 func185 func233 func243 func278 func39 func40 func46 func96 isAgg9 sizeOf9)
open List (length_append flatMap_cons append_nil length_nil length_cons take_zero length_eq_zero_iff flatMap_nil Perm nil_append all_eq_true cons_append foldl_nil mem_cons mem_map range)
open Nat (ble)
open List renaming getElem?_eq_getElem -> ac, take_of_length_le -> aj, length_take -> al, length_map -> ap, replicate -> aU, take_append_of_le_length -> a6, flatMap_append -> be, length_set -> bi, mem_of_getElem? -> bk, length_drop -> bo, take_length -> bs, drop_of_length_le -> bZ, set_eq_take_append_cons_drop -> b5, append_assoc -> cd, getElem?_drop -> ce, getD_eq_getElem?_getD -> cf, getElem?_eq_none -> ci, getElem?_map -> cl, all_append -> co, length_replicate -> cp, map_append -> c0, getElem?_cons_succ -> c4, drop_append_of_le_length -> dc, sizeOf_lt_of_mem -> dd, drop_zero -> dl, take_take -> dt, flatten_nil -> dv, replicate_zero -> d0, map_cons -> d3, drop_drop -> d6, foldl_append -> d7, take_add_one -> d8, getElem?_set_self -> d9, drop_length -> el, take_append -> em, length_filter_le -> ey, take_append_drop -> eB, drop_succ_cons -> e5, take_succ_cons -> e6, filter_append -> fl, getElem?_take -> fm, all_cons -> fu, ext_getElem? -> fw, flatten_cons -> f0, getElem?_set -> f3, length -> gc, drop_set -> go
open Nat renaming le_refl -> ad, reduceEqDiff -> af, min_eq_left -> aS, reduceLeDiff -> a7, reduceAdd -> bv, reduceLT -> b6, reduceMul -> b7, reduceSub -> b9, mul_one -> cc, zero_le -> ck, zero_mul -> cn, sub_zero -> ct, lt_succ_self -> dk, pos_of_ne_zero -> d2, sub_self -> d4, succ_mul -> d5, not_lt_zero -> er, add_comm -> eC, add_zero -> e3, min_def -> fb, min_eq_right -> f4, min_self -> f5, lt_irrefl -> gd, succ_pos -> gt, zero_add -> gv
open Option renaming bind_some -> a8, map_some -> cj
open Bool renaming and_eq_true -> bx, not_eq_true' -> cv
open And renaming intro -> b8
open Int renaming le_refl -> dB
open Array renaming getElem?_modify -> e4
open Go.Proofs.Tryz renaming func276 -> fd, underlying110 -> fo, zeroValue110 -> f7, underlying9 -> ga, zeroValue9 -> gb, sizeOf110 -> ge, isAgg110 -> gy
namespace Go.Proofs
open Go.Ev Go.RowKit Go.Lib Go.Shelf
set_option maxRecDepth 100000
def Iq(x y:Nat)(hx:x<18446744073709551616)(hy:y<18446744073709551616)(w:World):
 Calls prog 278 #[.int .u64 x,.int .u64 y] w λe w'=>e=.returned (.tuple #[.int .u64 ((x*y/18446744073709551616:Nat):Int),.int .u64 ((x*y%18446744073709551616:Nat):Int)])/\w'=w:=by
 obtain⟨bd,bt,bw,hhi⟩:=Lib.mul64_hi x y hx hy;have ba:=Lib.half_mul_le (a:=x/4294967296) (b:=y/4294967296) (by omega) (by omega);have bb:=Lib.half_mul_le (a:=x/4294967296) (b:=y%4294967296) (by omega) (by omega);have bc:=Lib.half_mul_le (a:=x%4294967296) (b:=y/4294967296) (by omega) (by omega)
 have ba':x/4294967296*(y/4294967296)<18446744073709551616:=by omega
 have bb':x/4294967296*(y%4294967296)<18446744073709551616:=by omega
 have bc':x%4294967296*(y/4294967296)<18446744073709551616:=by omega
 have bh1:x/4294967296*(y/4294967296)+(x/4294967296*(y%4294967296)+x%4294967296*(y%4294967296)/4294967296)/4294967296<18446744073709551616:=by omega
 have bh:x/4294967296*(y/4294967296)+(x/4294967296*(y%4294967296)+x%4294967296*(y%4294967296)/4294967296)/4294967296+((x/4294967296*(y%4294967296)+x%4294967296*(y%4294967296)/4294967296)%4294967296+x%4294967296*(y/4294967296))/4294967296<18446744073709551616:=by omega
 go_enter func278,Tryz.ntmps278
 go_wp2
 simp only[Mul64.maskN x hx,Mul64.maskN y hy,Mul64.divN,Mul64.mulN,Mul64.addN,Mul64.wrapN _ bd,Mul64.wrapN _ bb',Mul64.wrapN _ bt,Mul64.maskN _ bt,Mul64.wrapN _ bc',Mul64.wrapN _ bw,Mul64.wrapN _ ba',Mul64.wrapN _ bh1,Mul64.wrapN _ bh,Mul64.wrapM (x*y)];rw[hhi]
 go_ret2
 exact⟨rfl,rfl⟩
def Ir(x y:Nat)(hx:x<18446744073709551616)(hy:y<18446744073709551616):PC prog 278 [.a (.int .u64 x),.a (.int .u64 y)]
 (·=.bC [.a (.int .u64 ((x*y/18446744073709551616:Nat):Int)),.a (.int .u64 ((x*y%18446744073709551616:Nat):Int))]):=by
 intro ρ h avs _ hA;rw[eE] at hA;obtain⟨a,r,rfl,hA1,hA2⟩:=hA;rw[eE] at hA2;obtain⟨b,r2,rfl,hB1,hB2⟩:=hA2;rw[gL] at hB2;subst hB2;rw[GS] at hA1 hB1;subst hA1;subst hB1
 have hc:dy prog (.func 278) [.int .u64 x,.int .u64 y] h (λa h'=>a=.bC [.int .u64 ((x*y/18446744073709551616:Nat):Int),.int .u64 ((x*y%18446744073709551616:Nat):Int)]/\h'=h):=by
  intro σ w args' hv hr;obtain⟨v1,v2,rfl,k1,k2⟩:=F3 hv;cases k1;cases k2;refine(BH dE func278 (by rfl) hr (a:=.bC [.int .u64 ((x*y/18446744073709551616:Nat):Int),.int .u64 ((x*y%18446744073709551616:Nat):Int)]) (V.PJ (.cons (.int _ _) (.cons (.int _ _) .nil))) ((Iq x y hx hy w).mono ?_)).mono ?_
  ·rintro e w' ⟨rfl,rfl⟩;exact⟨rfl,Below.refl _ _⟩
  ·rintro v w' ⟨a,h',hm,hg⟩;have:=List.mem_singleton.1 hm;cases this;exact⟨_,_,⟨rfl,rfl⟩,hg⟩
 refine hc.mono ?_;rintro v h' ⟨rfl,rfl⟩;refine⟨_,ρ,rfl,.refl _ _,λid ob hi=>.inl hi,?_⟩;rw[GS];exact⟨_,rfl,by rw[eE];exact⟨_,_,rfl,by rw[GS],by rw[eE];exact⟨_,_,rfl,by rw[GS],by rw[gL]⟩⟩⟩
def jd(a:Int):Nat:=(dO .u64 (ee a (Ns a))).toNat
def FJ(n:Int):dO .u64 n=((dO .u64 n).toNat:Int)/\(dO .u64 n).toNat<18446744073709551616:=by
 have h:dO .u64 n=n%18446744073709551616:=by rw[iB];simp[IntKind.wrap,IntKind.bits,IntKind.signed]
 rw[h];omega
def tD(a:Int):Ua .neg (.int .i64 a)=some (.int .i64 (Ns a)):=rfl
def A9(a b:Int):Int:=
 cond ((decide (a<0)) != (decide (b<0)))
  (Ns (if jd a*jd b/18446744073709551616=0/\jd a*jd b%18446744073709551616<=1000000000000 then dO .i64 ((jd a*jd b%18446744073709551616:Nat):Int) else 1000000000000))
  (if jd a*jd b/18446744073709551616=0/\jd a*jd b%18446744073709551616<=1000000000000 then dO .i64 ((jd a*jd b%18446744073709551616:Nat):Int) else 1000000000000)
def E4(n:Int):mR prog 247 261 (.int .i64 n)=some (.int .u64 (dO .u64 n)):=by
 unfold mR;rw[show prog.underlying 247=some (.int .i64) by kernel_rfl,show prog.underlying 261=some (.int .u64) by kernel_rfl]
def E5(n:Int):mR prog 261 247 (.int .u64 n)=some (.int .i64 (dO .i64 n)):=by
 unfold mR;rw[show prog.underlying 247=some (.int .i64) by kernel_rfl,show prog.underlying 261=some (.int .u64) by kernel_rfl]
def V7{P:Program}{t:TypeId}(a b:Int):cS P .eql t (.int .u64 a) (.int .u64 b)=some (.bool (decide (a=b))):=tL rfl
def T9{P:Program}{t:TypeId}(a b:Int):cS P .leq t (.int .u64 a) (.int .u64 b)=some (.bool (decide (a<=b))):=tM rfl
def K1(a b:Int):PC prog 275 [aa a,aa b] (·=aa (A9 a b)):=by
 refine pB 38 Tryz.func275 ?_;have hm:=Ir (jd a) (jd b) (FJ _).2 (FJ _).2;rw[show((jd a:Nat):Int)=dO .u64 (ee a (Ns a)) from(FJ _).1.symm,show((jd b:Nat):Int)=dO .u64 (ee b (Ns b)) from(FJ _).1.symm] at hm;have ht:A9 a b=cond ((decide (a<0)) != (decide (b<0))) (Ns (if jd a*jd b/18446744073709551616=0/\jd a*jd b%18446744073709551616<=1000000000000 then dO .i64 ((jd a*jd b%18446744073709551616:Nat):Int) else 1000000000000)) (if jd a*jd b/18446744073709551616=0/\jd a*jd b%18446744073709551616<=1000000000000 then dO .i64 ((jd a*jd b%18446744073709551616:Nat):Int) else 1000000000000):=rfl;generalize jd a*jd b/18446744073709551616=hi at hm ht;generalize jd a*jd b%18446744073709551616=lo at hm ht
 refine(zV)<|(iC (n3 @tD @fE @E4))<|(zK hm)<|(zR)<|(zV) ?_
 by_cases h1:hi=0/\lo<=1000000000000
 ·rw[t8 h1] at ht
  refine(az (n4 @V7 @T9 (show decide ((hi:Int)=0)=true by simp;omega) (show decide ((lo:Int)<=1000000000000)=true by simp;omega)))<|(zY)<|(az @E5) ?_
  cases g1:decide (a<0)<;>cases g2:decide (b<0)
  ·rw[g1,g2] at ht
   exact(az (n2 g1 g2))<|(iY)<|zo [.tmp 4] (hq:=by rw[ht];rfl)
  ·rw[g1,g2] at ht
   exact(az (n2 g1 g2))<|(zY)<|(az @tD)<|zo [.tmp 4] (hq:=by rw[ht];rfl)
  ·rw[g1,g2] at ht
   exact(az (n2 g1 g2))<|(zY)<|(az @tD)<|zo [.tmp 4] (hq:=by rw[ht];rfl)
  ·rw[g1,g2] at ht
   exact(az (n2 g1 g2))<|(iY)<|zo [.tmp 4] (hq:=by rw[ht];rfl)
 ·rw[ul h1] at ht;by_cases h2:hi=0
  ·refine(az (n4 @V7 @T9 (show decide ((hi:Int)=0)=true by simp;omega) (show decide ((lo:Int)<=1000000000000)=false by simp;omega)))<|(zN) ?_
   cases g1:decide (a<0)<;>cases g2:decide (b<0)
   ·rw[g1,g2] at ht
    exact(az (n2 g1 g2))<|(iY)<|zo [.tmp 4] (hq:=by rw[ht];rfl)
   ·rw[g1,g2] at ht
    exact(az (n2 g1 g2))<|(zY)<|(az @tD)<|zo [.tmp 4] (hq:=by rw[ht];rfl)
   ·rw[g1,g2] at ht
    exact(az (n2 g1 g2))<|(zY)<|(az @tD)<|zo [.tmp 4] (hq:=by rw[ht];rfl)
   ·rw[g1,g2] at ht
    exact(az (n2 g1 g2))<|(iY)<|zo [.tmp 4] (hq:=by rw[ht];rfl)
  ·refine(az (n3 @V7 @T9 (show decide ((hi:Int)=0)=false by simp;omega)))<|(zN) ?_
   cases g1:decide (a<0)<;>cases g2:decide (b<0)
   ·rw[g1,g2] at ht
    exact(az (n2 g1 g2))<|(iY)<|zo [.tmp 4] (hq:=by rw[ht];rfl)
   ·rw[g1,g2] at ht
    exact(az (n2 g1 g2))<|(zY)<|(az @tD)<|zo [.tmp 4] (hq:=by rw[ht];rfl)
   ·rw[g1,g2] at ht
    exact(az (n2 g1 g2))<|(zY)<|(az @tD)<|zo [.tmp 4] (hq:=by rw[ht];rfl)
   ·rw[g1,g2] at ht
    exact(az (n2 g1 g2))<|(iY)<|zo [.tmp 4] (hq:=by rw[ht];rfl)
def KA(a b c d:Int):PC prog 270 [lF a b,lF c d] (·=oU (fv A9 a b c d)):=by
 refine pB 8 Tryz.func270 ?_;exact(az @lF.eq_1)<|(zC)<|(zK (wP 275 A9 K1 a b c d))<|(cK (n2 @oU.eq_1 @lF.eq_1))<|zo [.cell 4 54]
def RO(a b:Int):Int:=dO .i64 (a*b)
def HE(a b:Int):Int:=dO .i64 (a.tdiv b)
def qE{P:Program}{t:TypeId}(a b:Int):cS P .mul t (.int .i64 a) (.int .i64 b)=some (.int .i64 (RO a b)):=rfl
def OJ{P:Program}{t:TypeId}{a b:Int}(h:¬b=0):cS P .quo t (.int .i64 a) (.int .i64 b)=some (.int .i64 (HE a b)):=by
 have:Po b=false:=by
  cases b with
  | ofNat n=>
   cases n with
   | zero=>exact t7 rfl h
   | succ n=>rfl
  | negSucc n=>rfl
 unfold cS;simp only[this];rfl
def qQ(a b:Int):Int:=if b=0 then 0 else if (!(decide (RO (HE a b) b=a)))&&((decide (a<0)) != (decide (b<0))) then A4 (HE a b) 1 else HE a b
def iw(a b:Int):PC prog 277 [aa a,aa b] (·=aa (qQ a b)):=by
 refine pB 26 Tryz.func277 ?_;refine(zV) ?_;cases h0:decide (b=0);rotate_left
 ·exact(az h0)<|(cM)<|zo [.tmp 4] (hq:=by rw[qQ,t8 (ww h0)])
 have h0':=wt h0
 refine(az h0)<|(zN)<|(zs) ?_;refine aq.r0 (by rfl) (by simp only[bI,bj,ah,an,a8,cj,↓reduceIte,af,bv,b7,a7,b6,ae,ai,aN,OJ h0'];first | done | rfl) ?_
 have hf:qQ a b=if (!(decide (RO (HE a b) b=a)))&&((decide (a<0)) != (decide (b<0))) then A4 (HE a b) 1 else HE a b:=by rw[qQ,ul h0']
 cases h1:decide (RO (HE a b) b=a);rotate_left
 ·rw[h1] at hf;refine(zs) ?_;refine aq.r0 (by rfl) (iZ (n2 @qE h1)) ?_;refine(zs) ?_;refine aq.no rfl ?_;(try (refine aq.skip ?_;try change aq _ _ _ _ _));refine(zs) ?_;refine aq.r0 (by rfl) zl ?_;refine(zE) ?_;exact sP.of (rs:=[.tmp 4]) rfl rfl zl (Wk.refl rfl) (by (try simp only[df,aX]);first | done | (rw[hf];rfl))
 cases g1:decide (a<0)<;>cases g2:decide (b<0)<;>rw[h1,g1,g2] at hf
 ·refine(zs) ?_;refine aq.r0 (by rfl) (iZ (n4 @qE h1 g1 g2)) ?_;exact(iY)<|zo [.tmp 4] (hq:=by rw[hf];rfl)
 ·exact(az (n4 @qE h1 g1 g2))<|(zY)<|(az @qF)<|(zV)<|zo [.tmp 4] (hq:=by rw[hf];rfl)
 ·exact(az (n4 @qE h1 g1 g2))<|(zY)<|(az @qF)<|(zV)<|zo [.tmp 4] (hq:=by rw[hf];rfl)
 ·exact(az (n4 @qE h1 g1 g2))<|(iY)<|zo [.tmp 4] (hq:=by rw[hf];rfl)
open Go.Ev
abbrev cI:SV:=.a (.slice none 0 0 (some 0))
def Vk{n k:Nat}{c:Option Nat}{q:IntKind}(h:k<=n):cV n c none (some (.int q (k:Int))) none=some (0,k,c):=by
 unfold cV pa qo;simp only[lJ,a8,eZ h,Bool.true_or,ae]
def vD{n k:Nat}{c:Option Nat}{q:IntKind}(h:k<=n):cV n c (some (.int q (k:Int))) none none=some (k,n,c):=by
 unfold cV pa;simp only[lJ,a8,eZ h,ae]
def sf(a:Int)(h : -9223372036854775808<=a/\a<=9223372036854775807):cS prog .sub 3 (.int .i64 a) (.int .i64 ((0:Nat):Int))=some (.int .i64 a):=by
 have:=yp (P:=prog) (t:=3) (a:=a) (b:=((0:Nat):Int)) (by simpa using h);rw[this];simp
def DQ(n:Nat):(rep [AV.str []] n).map SV.a=(aU n []).flatMap (aw ab):=by
 induction n with
 | zero=>rfl
 | succ n ih=>rw[rep,c0,ih];rfl
def AI(l:List (List Nat)):(l.flatMap (aw ab)).all ef=true:=by
 induction l with
 | nil=>rfl
 | cons a l ih=>rw[flatMap_cons,co,ih];rfl
def my(l:List (List Nat)):(l.flatMap (aw ab)).length=l.length:=by
 induction l with
 | nil=>rfl
 | cons a l ih=>rw[flatMap_cons,length_append,ih,length_cons];show 1+_=_;omega
def Fc(n:Nat)(h0:0<n)(hb:n<=1000000):SC prog 243 [cI,aa n] [] [] (λr S'=>r=.buf 0 0 1 none/\S'=[.cells ((aU n []).flatMap (aw ab))]):=by
 refine Mk 27 func243 ?_
 have h1:decide ((n:Int)<0)=false:=by simp
 have h2:decide (0<(n:Int))=true:=by simp;omega
 have h3:¬n=0:=by omega
 refine(zV)<|(az h1)<|(zN)<|(az (n2 (sf ((0:Nat):Int) (by decide)) (sf n ⟨by omega,by omega⟩)))<|(az h2)<|(zY)<|(zs) ?_;refine aq.r0 (by rfl) (iZ (n8 (I2 (ck 0)) (I2 (ck n)) hb h3 @DQ @AI @d4 @ph)) ?_;refine(zs) ?_;refine aq.r0 (by rfl) zl ?_;refine(zE) ?_;exact Of.of (rs:=[.tmp 4]) rfl rfl zl (by (try simp only[df,aX]);first | done | (first | exact⟨rfl,rfl⟩ | exact⟨trivial,trivial⟩ | trivial)) zd zg
def B2:SC prog 243 [cI,aa 0] [] [] (λr S'=>r=cI/\S'=[]):=by
 refine Mk 27 func243 ?_;refine(mO)<|(zN)<|(az (n2 (sf ((0:Nat):Int) (by decide)) (sf 0 (by decide))))<|(I4)<|(zV)<|(zE) ?_;exact zP [.tmp 4]
def jl(l:List (List Nat)):List SV:=[ah 1 l (aw ab)]
def qf(o:Nat)(l:List (List Nat)):SV:=if l=[] then cI else .buf o l.length 1 none
def Qy(l:List (List Nat)):List SO:=if l=[] then [] else [.cells (l.flatMap (aw ab))]
def CA{α:Type}(ls:List (List α)){k:Nat}{x:List α}(h:ls[k]?=some x):(ls.take (k+1)).flatten=(ls.take k).flatten++x:=by
 rw[d8,h];simp
def xc{α:Type}(ls:List (List α))(k:Nat):(ls.take k).flatten.length<=ls.flatten.length:=by
 conv=>rhs;rw[<-eB k ls]
 rw[List.flatten_append,length_append];omega
def H3(ls:List (List (List Nat)))(hl:ls.length<=1000000)(hb:ls.flatten.length<=1000000):
 SC prog 232 [ah 1 ls jl] [] [] (λr S'=>r=qf 0 ls.flatten/\S'=Qy ls.flatten):=by
 refine Mk 36 Tryz.func232 ?_;have hlen:=hl
 refine(mO)<|(zV)<|(zs) ?_;refine zL ls (λk=>True) (λk=>[(0,ah 1 ls jl),(3,aa ((ls.take k).flatten.length:Nat)),(9,ah 1 ls jl),(10,aa ls.length),(11,aa k)]) (λk=>[]) (Fg.less (by (simp only[bI,bj,dI,↓reduceIte,af,ah,take_zero,dv,length_nil])<;>(repeat' apply b8)<;>first | rfl | trivial) (by (simp only[bI,bj,or_true,true_or,ah,take_zero,dv,length_nil])<;>(repeat' apply b8)<;>first | exact .inr rfl | exact .inl rfl | trivial)) zp ?_;intro k hk hall;refine zT ls k ?_ ?_;rintro rfl;rotate_left;intro x hx hlt;rotate_left
 rotate_left
 ·refine(zY) ?_;have h1:=CA ls hx;have h2:=xc ls (k+1)
  have h3:(((ls.take k).flatten.length:Nat):Int)+((x.length:Nat):Int)=(((ls.take (k+1)).flatten.length:Nat):Int):=by rw[h1,length_append];omega
  have h4:decide ((((ls.take (k+1)).flatten.length:Nat):Int)<0)=false:=by simp
  refine(zB)<|(az (n3 hlt (aH (e:=1) (enc:=jl) (λ_=>rfl) hx) @jl.eq_1))<|(az (n2 (qA (show -9223372036854775808<=(((ls.take k).flatten.length:Nat):Int)+((x.length:Nat):Int)/\(((ls.take k).flatten.length:Nat):Int)+((x.length:Nat):Int)<=9223372036854775807 from⟨by omega,by omega⟩)) h3))<|(az h4)<|(zN)<|(az (zi hlt hlen)) ?_;refine zX hlt zH trivial
 refine(eN) ?_;have htk:ls.take ls.length=ls:=bs;by_cases h0:ls.flatten=[]
 ·have h0':((ls.flatten.length:Nat):Int)=0:=by rw[h0];rfl
  refine(zC) ?_;rw[htk]
  refine zS [] trivial B2 ?_ (hc:=IY h0');refine(zR)<|(zV)<|(zs) ?_;refine zL ls (λk2=>True) (λk2=>[(6,cI),(25,ah 1 ls jl),(26,aa ls.length),(27,aa k2)]) (λk2=>[]) zH zp ?_;intro k2 hk2 hall2;refine zT ls k2 ?_ ?_;rintro rfl;rotate_left;intro x2 hx2 hlt2;rotate_left
  ·refine(eN)<|(zV)<|(zE) ?_;exact zP [.tmp 2] (hq:=by (try simp only[df,aX]);first | done | (rw[qf,Qy,t8 h0,t8 h0];exact⟨rfl,rfl⟩))
  refine(zY) ?_
  have hx0:x2=[]:=by
   have:=List.mem_iff_getElem?.2 ⟨k2,hx2⟩;exact List.flatten_eq_nil_iff.1 h0 x2 this
  subst hx0
  refine(zB)<|(az (n3 hlt2 (aH (e:=1) (enc:=jl) (λ_=>rfl) hx2) @jl.eq_1))<|(az @length_nil.{0})<|(az (zi hlt2 hlen)) ?_;refine zX hlt2 zH trivial
 have hpos:0<ls.flatten.length:=by
  cases h:ls.flatten with
  | nil=>exact t7 h h0
  | cons a l=>rw[length_cons];omega
 refine(zC) ?_;rw[htk]
 refine aG.sk [] (by rfl) rfl rfl (by rfl) rfl zc (Fc ls.flatten.length hpos hb) (by simp only[eM,bj,ah,↓reduceIte,af,bv,b9,b7,a7,b6,b9];first | done | rfl) rfl (by decide) (by simp only[vW,eM,bj,ah,b9]<;>(repeat' apply b8)<;>first | trivial | rfl | (intro hh;cases hh)) (by simp only[BU,eM,bj,ah,bv,b6,decide_true,b9];first | done | rfl) (by simp only[BU,eM,bj,ah,bv,b6,decide_true,b9];first | done | rfl) (by simp only[eM,bj,ah,↓reduceIte,af,bv,b9,b7,a7,b6,b9];first | done | rfl) (by simp only[eM,bj,ah,↓reduceIte,af,bv,b9,b7,a7,b6,b9,di,dx,bO,aM,bI];first | done | rfl) (by simp only[eM,bj,ah,↓reduceIte,af,bv,b9,b7,a7,b6,b9,di,dx,bO,aM,bI];first | done | rfl) ?_;refine(zR)<|(zV)<|(zs) ?_;refine Oi ls (λk2 (cs:List SV)=>((ls.take k2).flatten.length<=cs.length/\cs.take (ls.take k2).flatten.length=(ls.take k2).flatten.flatMap (aw ab))/\(cs.map (aM 0)=cs/\((ls.take k2).flatten≠[]->cs.length=(ls.take k2).flatten.length))) (λk2 cs=>[(6,.buf 0 (ls.take k2).flatten.length 1 none),(25,ah 1 ls jl),(26,aa ls.length),(27,aa k2)]) (λk2 cs=>[.cells cs]) (((aU ls.flatten.length []).flatMap (aw ab))) (Fg.less (by (simp only[bI,bj,dI,↓reduceIte,af,ah,take_zero,dv,length_nil])<;>(repeat' apply b8)<;>first | rfl | trivial) (by (simp only[bI,bj,or_true,true_or,ah,take_zero,dv,length_nil])<;>(repeat' apply b8)<;>first | exact .inr rfl | exact .inl rfl | trivial)) (by exact⟨⟨ck _,rfl⟩,ph _ _,λh=>t7 rfl h⟩) ?_;intro k2 cs hk2 hall2;refine zT ls k2 ?_ ?_;rintro rfl;rotate_left;intro x2 hx2 hlt2;rotate_left
 ·rw[htk] at hall2 ⊢;obtain⟨⟨g1,g2⟩,g3,g4⟩:=hall2
  have g5:cs=ls.flatten.flatMap (aw ab):=by
   rw[<-g2,<-g4 h0,bs]
  refine(eN)<|(zV)<|(zE) ?_;exact zP [.tmp 2] (hq:=by (try simp only[df,aX]);first | done | (rw[qf,Qy,ul h0,ul h0,g5];exact⟨rfl,rfl⟩))
 refine(zY) ?_;obtain⟨⟨g1,g2⟩,g3,g4⟩:=hall2;have h1:=CA ls hx2;have h2:=xc ls (k2+1);have h2':=h2;rw[h1,length_append] at h2
 refine(zB)<|(az (n3 hlt2 (aH (e:=1) (enc:=jl) (λ_=>rfl) hx2) @jl.eq_1)) ?_
 by_cases hx0:x2=[]
 ·subst hx0;rw[append_nil] at h1
  refine(az (n2 @length_nil.{0} (show(ls.take k2).flatten.length<=1000000 by omega)))<|(az (zi hlt2 hlen)) ?_;refine I5 hlt2 (cs) (bK h1) (by rw[h1];exact⟨⟨g1,g2⟩,g3,g4⟩)
 have hx0':¬x2.length=0:=λe=>hx0 (length_eq_zero_iff.1 e)
 have g6:(cs.take ((ls.take k2).flatten.length*1)++x2.flatMap (aw ab)).map (aM 0)=(ls.take (k2+1)).flatten.flatMap (aw ab):=by
  rw[cc,g2,h1,<-be,ph]
 refine(az (n6 hx0' (show x2.length<=1000000 by omega) @AI (show(ls.take k2).flatten.length<=1000000 by omega) (show(ls.take k2).flatten.length*1<=cs.length by omega) g6))<|(az (zi hlt2 hlen)) ?_;refine I5 hlt2 (((ls.take (k2+1)).flatten.flatMap (aw ab))) (bK (n2 h1 @length_append.{0})) (by refine⟨⟨?_,?_⟩,ph _ _,λ_=>my _⟩;(rw[my];exact ad _);(rw[aj (by rw[my];exact ad _)]))
open Go.Ev Go.RowKit
structure Wy where
 kind:List Nat
 cR:List Nat
 days:Int
 km:Int
 wy:Int
structure Pt where
 name:List Nat
 kind:List Nat
 bG:List Nat
 slot:List Nat
 made:Int
 since:Int
 W5:Bool
 props:AV
 W3:Int
 Wv:Int
 W0:Int
 WZ:Int
 W2:Int
 W1:Int
structure Co where
 part:List Nat
 owner:List Nat
 day:Int
 am:Int
def GQ(n:Int):Bool:=decide (0<=n)&&decide (n<=40000)
def Rh{P:Program}{t:TypeId}{a b:Int}(hb:b≠0)(h : -9223372036854775808<=a.tdiv b/\a.tdiv b<=9223372036854775807):cS P .quo t (.int .i64 a) (.int .i64 b)=some (.int .i64 (a.tdiv b)):=by
 have h1:(sD (-9223372036854775808) (a.tdiv b)&&sD (a.tdiv b) 9223372036854775807)=true:=by
  rw[e9,e9];simp[h.1,h.2]
 have hz:Po b=false:=by
  unfold Po
  cases b with
  | ofNat n=>
   cases n with
   | zero=>exact t7 rfl hb
   | succ n=>rfl
  | negSucc n=>rfl
 simp only[cS,Aj,ae,hz,ai,dO,Pz,Pm,h1]
def Lj{P:Program}{t:TypeId}{a b:Int}(hb:b≠0):cS P .rem t (.int .i64 a) (.int .i64 b)=some (.int .i64 (a.tmod b)):=by
 have hz:Po b=false:=by
  unfold Po
  cases b with
  | ofNat n=>
   cases n with
   | zero=>exact t7 rfl hb
   | succ n=>rfl
  | negSucc n=>rfl
 simp only[cS,Aj,ae,hz,ai]
def qy(a p:Int):Int:=if 100<2*(a*p%100)\/(2*(a*p%100)=100/\a*p/100%2≠0) then a*p/100+1 else a*p/100
def S8(a p:Int):Bool:=x4 a&&(decide (0<=p)&&decide (p<=100))
def LM{a p:Int}(ha:0<=a/\a<=1000000000000)(hp:0<=p/\p<=100):0<=a*p/\a*p<=100000000000000:=by
 refine⟨Int.mul_nonneg ha.1 hp.1,?_⟩;have h1:a*p<=1000000000000*p:=Int.mul_le_mul_of_nonneg_right ha.2 hp.1;omega
def L3{a p:Int}(ha:0<=a/\a<=1000000000000)(hp:0<=p/\p<=100):0<=qy a p/\qy a p<=a:=by
 obtain⟨h1,h2⟩:=LM ha hp;have h3:a*p<=a*100:=Int.mul_le_mul_of_nonneg_left hp.2 ha.1;unfold qy;generalize a*p=m at *;split<;>omega
def qz(k:List Nat):List AV:=[.str k]
def AU(ks:List (List Nat)):∀r∈ks.map qz,r.length=1:=by intro r hr;obtain⟨t,_,rfl⟩:=List.mem_map.1 hr;rfl
def Wy.ok(w:Wy):Bool:=cC w.kind&&(cC w.cR&&(GQ w.days&&(x4 w.km&&(decide (0<=w.wy)&&decide (w.wy<=100)))))
def Co.ok(c:Co):Bool:=cC c.part&&(cC c.owner&&(GQ c.day&&x4 c.am))
structure Wy.fits (w:Wy):Prop where
 k:w.kind.length<=1000000
 kb:∀b∈w.kind,b<256
 m:w.cR.length<=1000000
 mb:∀b∈w.cR,b<256
structure Co.fits (c:Co):Prop where
 p:c.part.length<=1000000
 pb:∀b∈c.part,b<256
 o:c.owner.length<=1000000
 ob:∀b∈c.owner,b<256
def ej(ws:List Wy)(c:Co):Bool:=ws.all Wy.ok&&c.ok
def ld(day fr:Int):Int:=if day<=fr then 0 else day-(if day-1000000000000<=fr then fr else day-1000000000000)
def mh(p:Pt)(c:Co)(w:Wy):Bool:=decide (w.kind=p.kind)&&(decide (ld c.day p.made<=w.days)&&decide (p.Wv<=w.km))
def pM(ws:List Wy)(po:Option Pt)(c:Co):List (List Nat×Int):=match po with
 | none=>[(c.owner,c.am)]
 | some p=>match ws.find? (mh p c) with
  | none=>[(c.owner,c.am)]
  | some w=>cr w.cR (getM 0 w.cR (cr c.owner (c.am-qy c.am w.wy) [(c.owner,c.am)])+qy c.am w.wy) (cr c.owner (c.am-qy c.am w.wy) [(c.owner,c.am)])
def Dd{w:Wy}{c:Co}(hw:w.ok=true)(hc:c.ok=true):S8 c.am w.wy=true/\(0<=c.am/\c.am<=1000000000000)/\(0<=w.wy/\w.wy<=100):=by
 unfold Wy.ok at hw;unfold Co.ok at hc;simp only[bx,x4,wp] at hw hc;unfold S8 x4;simp only[bx,wp];omega
def vr(ml:List (List Nat×Int))(ks:List (List Nat)):List Sh:=(ks.filter λk=>decide (0<getM 0 k ml)).map λk=>⟨k,getM 0 k ml⟩
def rI(ks:List (List Nat)):Prop:=ks.Pairwise λa b=>iD b a=false
structure kL (ml:List (List Nat×Int)) (ss:List Sh):Prop where
 ex:∃ks:List (List Nat),ks.Perm (ml.map (·.1))/\rI ks/\ss=vr ml ks
def QI(ml:List (List Nat×Int))(ks:List (List Nat))(k:List Nat):vr ml (ks++[k])=if 0<getM 0 k ml then vr ml ks++[⟨k,getM 0 k ml⟩] else vr ml ks:=by
 unfold vr;rw[fl];by_cases h:0<getM 0 k ml<;>simp[h]
def EW(ml:List (List Nat×Int))(ks:List (List Nat)):(vr ml ks).length<=ks.length:=by
 unfold vr;rw[ap];exact ey _ _
open Go.Shelf
def yg:Go.Shelf.Ren:=⟨λ| 6=>96 | 8=>113 | 9=>139 | 19=>161 | 20=>162 | 21=>194 | 22=>195 | 23=>196 | 24=>197 | 25=>198 | 26=>199 | 27=>200 | 28=>201 | 29=>202 | 36=>225 | 31=>226 | 32=>227 | 37=>228 | 38=>229 | 39=>185 | 41=>242 | n=>n,λ| 27=>110 | 29=>9 | 3=>3 | 32=>209 | 26=>110 | 0=>0 | 44=>259 | 46=>261 | 4=>4 | 36=>286 | 35=>285 | 41=>176 | 5=>5 | 9=>9 | 53=>313 | 57=>307 | 63=>330 | 64=>326 | n=>n,λ| n=>n⟩
def xO:Go.Proofs.SlLaysM.n6 prog yg:={
 mixed:=by kernel_rfl
 f6:=⟨Tryz.f96.name,by decide,func96.trans (congrArg some (by kernel_rfl))⟩
 f8:=Tryz.func113.trans (congrArg some (by kernel_rfl))
 f9:=⟨Tryz.f139.name,by decide,Tryz.func139.trans (congrArg some (by kernel_rfl))⟩
 f19:=Tryz.func161.trans (congrArg some (by kernel_rfl))
 f20:=Tryz.func162.trans (congrArg some (by kernel_rfl))
 f21:=⟨Tryz.f194.name,by decide,Tryz.func194.trans (congrArg some (by kernel_rfl))⟩
 f22:=⟨Tryz.f195.name,by decide,Tryz.func195.trans (congrArg some (by kernel_rfl))⟩
 f23:=⟨Tryz.f196.name,by decide,Tryz.func196.trans (congrArg some (by kernel_rfl))⟩
 f24:=⟨Tryz.f197.name,by decide,Tryz.func197.trans (congrArg some (by kernel_rfl))⟩
 f25:=⟨Tryz.f198.name,by decide,Tryz.func198.trans (congrArg some (by kernel_rfl))⟩
 f26:=⟨Tryz.f199.name,by decide,Tryz.func199.trans (congrArg some (by kernel_rfl))⟩
 f27:=⟨Tryz.f200.name,by decide,Tryz.func200.trans (congrArg some (by kernel_rfl))⟩
 f28:=⟨Tryz.f201.name,by decide,Tryz.func201.trans (congrArg some (by kernel_rfl))⟩
 f29:=⟨Tryz.f202.name,by decide,Tryz.func202.trans (congrArg some (by kernel_rfl))⟩
 f31:=Tryz.func226.trans (congrArg some (by kernel_rfl))
 f32:=Tryz.func227.trans (congrArg some (by kernel_rfl))
 f36:=⟨Tryz.f225.name,by decide,Tryz.func225.trans (congrArg some (by kernel_rfl))⟩
 f37:=⟨Tryz.f228.name,by decide,Tryz.func228.trans (congrArg some (by kernel_rfl))⟩
 f38:=⟨Tryz.f229.name,by decide,Tryz.func229.trans (congrArg some (by kernel_rfl))⟩
 f39:=⟨Tryz.f185.name,by decide,func185.trans (congrArg some (by kernel_rfl))⟩
 f41:=⟨Tryz.f242.name,by decide,Tryz.func242.trans (congrArg some (by kernel_rfl))⟩
 t0:=Tryz.underlying0
 a0:=Tryz.isAgg0
 z0:=Tryz.sizeOf0
 v0:=Tryz.zeroValue0
 t3:=Tryz.underlying3
 a3:=Tryz.isAgg3
 z3:=Tryz.sizeOf3
 v3:=Tryz.zeroValue3
 t4:=Tryz.underlying4
 a4:=Tryz.isAgg4
 z4:=Tryz.sizeOf4
 v4:=Tryz.zeroValue4
 t5:=Tryz.underlying5
 a5:=Tryz.isAgg5
 z5:=Tryz.sizeOf5
 v5:=Tryz.zeroValue5
 t9:=ga
 a9:=isAgg9
 z9:=sizeOf9
 v9:=gb
 t26:=fo
 a26:=gy
 z26:=ge
 v26:=f7
 t27:=fo
 a27:=gy
 z27:=ge
 v27:=f7
 t29:=ga
 a29:=isAgg9
 z29:=sizeOf9
 v29:=gb
 t32:=Tryz.underlying209
 a32:=Tryz.isAgg209
 z32:=Tryz.sizeOf209
 v32:=Tryz.zeroValue209
 t35:=Tryz.underlying285
 a35:=Tryz.isAgg285
 z35:=Tryz.sizeOf285
 v35:=Tryz.zeroValue285
 t36:=Tryz.underlying286
 a36:=Tryz.isAgg286
 z36:=Tryz.sizeOf286
 v36:=Tryz.zeroValue286
 t41:=Tryz.underlying176
 a41:=Tryz.isAgg176
 z41:=Tryz.sizeOf176
 v41:=Tryz.zeroValue176
 t44:=Tryz.underlying259
 a44:=Tryz.isAgg259
 z44:=Tryz.sizeOf259
 v44:=Tryz.zeroValue259
 t46:=Tryz.underlying261
 a46:=Tryz.isAgg261
 z46:=Tryz.sizeOf261
 v46:=Tryz.zeroValue261
 t53:=Tryz.underlying313
 a53:=Tryz.isAgg313
 z53:=Tryz.sizeOf313
 v53:=Tryz.zeroValue313
 t57:=Tryz.underlying307
 a57:=Tryz.isAgg307
 z57:=Tryz.sizeOf307
 v57:=Tryz.zeroValue307
 t63:=Tryz.underlying330
 a63:=Tryz.isAgg330
 z63:=Tryz.sizeOf330
 v63:=Tryz.zeroValue330
 t64:=Tryz.underlying326
 a64:=Tryz.isAgg326
 z64:=Tryz.sizeOf326
 v64:=Tryz.zeroValue326 }
open Go.Ev Go.RowKit Go.Shelf Go.Lib Go.Sort
def Eo(x y:List UInt8):decide (x<=y)=!iD (y.map (·.toNat)) (x.map (·.toNat)):=by
 rw[pj,bytesLess_eq];by_cases h:y<x
 ·have:¬x<=y:=λh2=>h2 h;simp[h,this]
 ·have:x<=y:=h;simp[h,this]
def WD:Option Value->ByteArray
 | some (.string s)=>s
 | _=>ByteArray.empty
def I3(ss:List (List UInt8)):List (List Nat):=ss.map λs=>s.map (·.toNat)
def xN(ks:List (List Nat))(v:AV)(Z:Nat)(h:Ev.H)(hout:Oo Z h v 1 (ks.map qz))(hlen:ks.length<=1000000):
 dy prog (.func 96) [v] h (λr h'=>r=.bC []/\∃ks':List (List Nat),ks'.Perm ks/\rI ks'/\Oo Z h' v 1 (ks'.map qz)/\Over Z h h'/\∀id n e c,v=.slice (some (id,0)) n e c->h.store id 0 (ks'.map qz).flatten=some h'):=by
 intro σ w args' hv hr;obtain⟨x,rfl,hx⟩:=SI hv;rw[ei dE func96 (by rfl)]
 rcases hout.2 with⟨e,e2⟩ | ⟨id,bY,fx,fy,hne,e2,ho,hfx,hxy,z1,z2,z3,z4,l1,l2,l3,l4⟩
 ·subst e2
  have hts:ks=[]:=by simpa using e
  subst hts
  cases hx with
  | iu hl=>
   refine Calls.mono (AnyM.slices_Sort_string_none xO none 0 w) λe w' ⟨he,hw⟩=>?_;subst hw;exact⟨_,he,.bC [],h,⟨rfl,[],.refl _,List.Pairwise.nil,hout,Over.refl _ _,λ_ _ _ _ he=>by cases he⟩,σ,V.jG,hr,.refl _ _ _⟩
 ·subst e2
  have hpos:0<ks.length:=by
   cases ks with
   | nil=>exact t7 rfl hne
   | cons=>exact gt _
  rw[ap] at hx
  cases hx with
  | @slice _ _ _ _ _ a p c hs hl hrr hcc ha=>
  have ha:a=⟨p.b,p.d+0,none⟩:=ha.resolve_right (by omega);subst ha;obtain⟨q,carr,et,hq,hb,hsz,hlen',hVc⟩:=hr.cells ho;rw[hs] at hq;cases hq
  have hfl:(ks.map qz).flatten.length=ks.length*1:=by
   have:=jT (s:=1) hout.1;rw[ap] at this;exact this
  have hpl:=hr.lt ho hs
  let d:List (List UInt8):=(range ks.length).map λi=>(WD carr[p.d+i]?).data.toList
  have hdl0:d.length=ks.length:=by simp[d]
  have hspec:∀i,i<ks.length->∃s:ByteArray,carr[p.d+i]?=some (.string s)/\ks[i]?=some (s.data.toList.map (·.toNat))/\d[i]?=some s.data.toList:=λi hi=>by
   have hki:ks[i]?=some ks[i]:=ac hi
   have hg:(ks.map qz)[i]?=some (qz ks[i]):=by rw[cl,hki];rfl
   have h0:=pX hout.1 hg (k:=0) (by omega);obtain⟨v0,g0,V0⟩:=hVc _ _ (h0.trans (show(qz ks[i])[0]?=some (.str ks[i]) from rfl));rw[cc,e3] at g0;generalize hkk:ks[i]=kk at V0
   cases V0 with
   | @str _ s0 e0=>
    refine⟨s0,g0,by rw[hki,hkk,e0],?_⟩;show((range ks.length).map _)[i]?=_;rw[cl,List.getElem?_range hi,cj,g0];rfl
  have hH:Holds encStr w p.b (p.d+0) d.toArray:=by
   intro j hj
   have hj':j<ks.length:=by simpa [hdl0] using hj
   obtain⟨s,g1,g2,g3⟩:=hspec j hj';refine⟨?_,vU hb⟩;rw[cell_of hb,e3,g1];rw[getElem!_pos d.toArray j hj]
   have:d.toArray[j]=s.data.toList:=by
    have h1:=ac (l:=d) (i:=j) (by omega);rw[g3] at h1;simpa using(Option.some.inj h1).symm
   rw[this]
  have hmain:=AnyM.slices_Sort_string xO p.b (p.d+0) c d w hH hpl (by rw[hdl0];omega);rw[hdl0] at hmain;change Calls prog 96 _ _ _ at hmain;refine Calls.mono hmain ?_;rintro e w' ⟨rfl,n,os,rfl⟩;obtain⟨d',hd'⟩:∃d',d'=d.mergeSort λx y=>decide (x<=y):=⟨_,rfl⟩;rw[<-hd']
  have hp3:d'.Perm d:=by rw[hd'];exact List.mergeSort_perm _ _
  have hp1:d'.length=ks.length:=by rw[hp3.length_eq,hdl0]
  have hsorted:d'.Pairwise λx y=>decide (x<=y)=true:=by
   rw[hd'];refine List.pairwise_mergeSort ?_ ?_ d
   ·intro a b c h1 h2;rw[Eo] at *;simp only[cv] at *;cases h:iD (c.map (·.toNat)) (a.map (·.toNat))
    ·rfl
    ·rcases mz (a.map (·.toNat)) (b.map (·.toNat)) with g | g | g
     ·have:=jB h g;rw[h2] at this;cases this
     ·rw[g,h2] at h;cases h
     ·rw[h1] at g;cases g
   ·intro a b;rw[Eo,Eo]
    rcases mz (a.map (·.toNat)) (b.map (·.toNat)) with g | g | g
    ·rw[rX g];rfl
    ·rw[g,kW];rfl
    ·rw[rX g];simp
  have hdl:I3 d=ks:=by
   apply fw;intro i;unfold I3;by_cases hi:i<ks.length
   ·obtain⟨s,g1,g2,g3⟩:=hspec i hi;rw[cl,g3,g2];rfl
   ·rw[ci (by simp[hdl0];omega),ci (by omega)]
  have hperm:(I3 d').Perm ks:=by rw[<-hdl];exact hp3.map _
  have hsx:rI (I3 d'):=by
   unfold rI I3;rw[List.pairwise_map];refine hsorted.imp ?_;intro a b h1;rw[Eo] at h1;simpa using h1
  have hlen2:(I3 d').length=ks.length:=by unfold I3;rw[ap,hp1]
  have hw3:=AU (I3 d')
  have hb1:(putRow encStr (Sort.ahead w n) p.b (p.d+0) d'.toArray).heap[p.b]?=some (.cells (putCells encStr (p.d+0) d'.toArray carr) et (0,0)):=by
   unfold putRow mapBlock;simp only[e4,if_true];rw[show(Sort.ahead w n).heap[p.b]?=some (.cells carr et (0,0)) from hb];rfl
  have hoth:∀b,b≠p.b->(putRow encStr (Sort.ahead w n) p.b (p.d+0) d'.toArray).heap[b]?=w.heap[b]?:=λb hbb=>by
   unfold putRow mapBlock;simp only[e4];rw[ul (λe=>hbb e.symm)];rfl
  have hVn:∀(i:Nat) (a:AV),((I3 d').map qz).flatten[i]?=some a->∃v,(putCells encStr (p.d+0) d'.toArray carr)[p.d+i]?=some v/\V σ a v:=by
   intro i a hia
   have hil:i<ks.length:=by
    have:=Jy hia;rw[jT hw3,ap,hlen2] at this;omega
   have hj:i<d'.length:=by omega
   have hrow:((I3 d').map qz)[i]?=some (qz (d'[i].map (·.toNat))):=by
    unfold I3;rw[cl,cl,ac hj];rfl
   have hat:=pX hw3 hrow (k:=0) (by omega);rw[cc,e3,hia] at hat
   have hcl:p.d+i<carr.size:=by omega
   have hput:(putCells encStr (p.d+0) d'.toArray carr)[p.d+i]?=some (encStr d'[i]):=by
    unfold putCells;rw[Array.getElem?_mapIdx,Array.getElem?_eq_getElem hcl,cj,t8 ⟨by omega,by simp;omega⟩];rw[show p.d+i-(p.d+0)=i by omega,getElem!_pos d'.toArray i (by simpa using hj)];simp
   refine⟨_,hput,?_⟩;cases hat;exact .str rfl
  obtain⟨r1,r2⟩:=hr.rewrite ho hs (cs':=((I3 d').map qz).flatten) (by rw[jT hw3,ap,hlen2,hfl]) hb hb1 (by unfold putCells;rw[Array.size_mapIdx]) hVn hoth (by unfold putRow mapBlock;simp[Sort.ahead]) rfl rfl rfl
  have hbel:Below (putRow encStr (Sort.ahead w n) p.b (p.d+0) d'.toArray).heap.size (putRow encStr (Sort.ahead w n) p.b (p.d+0) d'.toArray) (grow (putRow encStr (Sort.ahead w n) p.b (p.d+0) d'.toArray) os):=
   ⟨rfl,rfl,rfl,by rw[size_grow];omega,λk hk=>by unfold grow;simp only;rw[Array.getElem?_append_left hk]⟩
  have hkeep:=pL r1 hbel;obtain⟨ao1,ao2⟩:=sR (id:=id) hfx z2 z3 z4
  have hne':(I3 d').map qz≠[]:=by
   intro e;have:=congrArg gc e;rw[ap,hlen2] at this;simp at this;rw[this] at hpos;simp at hpos
  refine⟨_,rfl,.bC [],_,⟨rfl,I3 d',hperm,hsx,⟨hw3,.inr ⟨id,bY,id,id,hne',?_,?_,?_,.inl rfl,z1,z1,z1,z4,?_,?_,?_,?_⟩⟩,?_,?_⟩,σ,V.jG,hkeep.1,r2.trans hkeep.2⟩
  ·rw[ap,ap,hlen2]
  ·exact cX _ _ _
  ·exact Ci hfx
  ·show id<(h.alone id bY).next;rw[ao2];exact l1
  ·show id<(h.alone id bY).next;rw[ao2];exact l1
  ·show id<(h.alone id bY).next;rw[ao2];exact l1
  ·show bY<(h.alone id bY).next;rw[ao2];exact l4
  ·refine ao1.trans ⟨ad _,λj hj=>bn _ _ (by omega),λ_ _=>rfl,λhl=>rY (by omega)⟩
  ·intro id2 n2 e2 c2 he;cases he
   have hfl2:((I3 d').map qz).flatten.length=(ks.map qz).flatten.length:=by rw[jT hw3,ap,hlen2,hfl]
   have hone:((I3 d').map qz).flatten.all ke=true:=by
    rw[all_eq_true];intro x hx;rw[List.mem_flatten] at hx;obtain⟨r,hr1,hr2⟩:=hx;obtain⟨k,_,rfl⟩:=mem_map.1 hr1;rw[List.mem_singleton.1 hr2];rfl
   unfold H.store;rw[ho];simp only;rw[hfl2,gv,eZ (ad _),hone,Bool.and_self,ae,take_zero,nil_append,bZ (ad _),append_nil]
def Ao(a b:List Nat):Bool:=!iD b a
def Nf(a b c:List Nat)(h1:Ao a b=true)(h2:Ao b c=true):Ao a c=true:=by
 unfold Ao at *;simp only[cv] at *;cases h:iD c a
 ·rfl
 ·rcases mz a b with g | g | g
  ·have:=jB h g;rw[h2] at this;cases this
  ·rw[g,h2] at h;cases h
  ·rw[h1] at g;cases g
def Nd(a b:List Nat):(Ao a b||Ao b a)=true:=by
 unfold Ao
 rcases mz a b with g | g | g
 ·rw[rX g];rfl
 ·rw[g,kW];rfl
 ·rw[rX g];simp
def G0{a b:List Nat}(h1:Ao a b=true)(h2:Ao b a=true):a=b:=by
 unfold Ao at h1 h2;simp only[cv] at h1 h2
 rcases mz a b with g | g | g
 ·rw[h2] at g;cases g
 ·exact g
 ·rw[h1] at g;cases g
def M7(x:List Nat):List (List Nat)->List (List Nat)
 | []=>[x]
 | y::l=>cond (Ao x y) (x::y::l) (y::M7 x l)
def dM:List (List Nat)->List (List Nat)
 | []=>[]
 | x::l=>M7 x (dM l)
def TI(x:List Nat):∀l,(M7 x l).Perm (x::l)
 | []=>.refl _
 | y::l=>by
  rw[M7];cases Ao x y
  ·exact((TI x l).cons y).trans (.swap x y l)
  ·exact .refl _
def rp:∀l,(dM l).Perm l
 | []=>.refl _
 | x::l=>(TI x _).trans ((rp l).cons x)
def UG(x:List Nat):∀l,l.Pairwise (λa b=>Ao a b=true)->(M7 x l).Pairwise λa b=>Ao a b=true
 | [],_=>List.pairwise_singleton ..
 | y::l,h=>by
  obtain⟨h1,h2⟩:=List.pairwise_cons.1 h;rw[M7];cases g:Ao x y
  ·refine List.pairwise_cons.2 ⟨λz hz=>?_,UG x l h2⟩
   rcases mem_cons.1 ((TI x l).mem_iff.1 hz) with rfl | hz
   ·have:=Nd z y;rw[g] at this;simpa using this
   ·exact h1 z hz
  ·refine List.pairwise_cons.2 ⟨λz hz=>?_,h⟩
   rcases mem_cons.1 hz with rfl | hz
   ·exact g
   ·exact Nf _ _ _ g (h1 z hz)
def HS:∀l,(dM l).Pairwise λa b=>Ao a b=true
 | []=>.nil
 | x::l=>UG x _ (HS l)
def Ka{l ks:List (List Nat)}(hp:ks.Perm l)(hs:rI ks):ks=dM l:=by
 have h2:(dM l).Pairwise λa b=>Ao a b=true:=HS l
 have h1:ks.Pairwise λa b=>Ao a b=true:=by
  unfold rI at hs;refine hs.imp ?_;intro a b h;unfold Ao;rw[h];rfl
 have hq:ks.Perm (dM l):=hp.trans (rp l).symm;exact Perm.eq_of_pairwise (λa b _ _ h1 h2=>G0 h1 h2) h1 h2 hq
def Mi(l:List (List Nat)):(l.map qz).flatten=l.map AV.str:=by
 induction l with
 | nil=>rfl
 | cons a l ih=>rw[d3,f0,ih];rfl
def zW:∀l:List (List Nat),ia (l.flatMap (aw ab))=some (l.map AV.str)
 | []=>rfl
 | a::l=>by
  show ia (ab a::l.flatMap (aw ab))=_;rw[ia,cE,a8,zW l];rfl
def tC(l:List (List Nat))(hlen:l.length<=1000000)(hne:l≠[]):SC prog 96 [.buf 0 l.length 1 none] [.cells (l.flatMap (aw ab))] [] (λr S'=>r=.bC []/\S'=[.cells ((dM l).flatMap (aw ab))]):=by
 have hl2:(dM l).length=l.length:=(rp l).length_eq;refine SC.row (by rw[my,my,hl2]) (λθ ρ xs hx=>mE hx (AI _)) ?_;intro E θ ρ h avs asx bY hl hR hA ho hV ⟨⟨x,y⟩,hf,hxy,b1,b2,b3,b4⟩;have has:=o5 hV (zW l);subst has;rw[aJ] at hA;obtain⟨a,r,rfl,hA1,hA2⟩:=hA;rw[aT] at hA2;subst hA2;rw[VS] at hA1;subst hA1
 have hout:Oo 0 h (.slice (some ((θ 0).id,0)) l.length 1 none) 1 (l.map qz):=by
  refine⟨AU l,.inr ⟨(θ 0).id,bY,x,y,by simpa using hne,by rw[ap],by rw[Mi];exact ho,hf,hxy,ck _,ck _,ck _,ck _,b4,b1,b2,b3⟩⟩
 refine(xN l _ 0 h hout hlen).mono ?_;rintro v h' ⟨rfl,ks',hp,hs,_,_,hst⟩;have:=Ka hp hs;subst this;refine⟨by rw[VS];exact⟨[],rfl,by rw[aT]⟩,_,?_,hst _ _ _ _ rfl⟩;rw[Mi];exact ud (zW _)
def fe(l:List (List Nat)):List (List Nat):=l.foldl (λacc x=>if acc.getLast?=some x then acc else acc++[x]) []
def sV(l:List (List Nat))(x:List Nat):fe (l++[x])=if (fe l).getLast?=some x then fe l else fe l++[x]:=by
 unfold fe;rw[d7];rfl
def Jk(l:List (List Nat))(x:List Nat):(fe (l++[x])).getLast?=some x:=by
 rw[sV];by_cases h:(fe l).getLast?=some x
 ·rw[t8 h];exact h
 ·rw[ul h,List.getLast?_append];rfl
def bz{α:Type}{l:List α}{i:Nat}{x:α}(h:l[i]?=some x):l.take (i+1)=l.take i++[x]:=by
 rw[d8,h];rfl
def zk{l:List (List Nat)}{i:Nat}{z y:List Nat}(hz:l[i]?=some z)(hy:l[i+1]?=some y):fe (l.take (i+1+1))=if z=y then fe (l.take (i+1)) else fe (l.take (i+1))++[y]:=by
 have h1:=Jk (l.take i) z;rw[bz hy,sV,bz hz,h1];by_cases h:z=y
 ·rw[t8 h,t8 (by rw[h])]
 ·rw[ul h,ul (λe=>h (Option.some.inj e))]
def wI:∀{c:List (List Nat)} {i:Nat} {x:List Nat},c[i]?=some x->(c.flatMap (aw ab))[i]?=some (ab x)
 | [],i,x,h=>by simp at h
 | a::c,0,x,h=>by
  simp only[List.getElem?_cons_zero,Option.some.injEq] at h;subst h;rfl
 | a::c,i+1,x,h=>by
  simp only[c4] at h;exact wI (c:=c) h
def uV:∀(c:List (List Nat)) (i:Nat),(c.flatMap (aw ab)).take i=(c.take i).flatMap (aw ab)
 | [],i=>by simp
 | a::c,0=>rfl
 | a::c,i+1=>by
  show(ab a::c.flatMap (aw ab)).take (i+1)=_;rw[e6,uV c i];rfl
def A3:∀(c:List (List Nat)) (i:Nat),(c.flatMap (aw ab)).drop i=(c.drop i).flatMap (aw ab)
 | [],i=>by simp
 | a::c,0=>rfl
 | a::c,i+1=>by
  show(ab a::c.flatMap (aw ab)).drop (i+1)=_;rw[e5,A3 c i];rfl
def QF{α:Type}{c:List α}{i:Nat}(y:α)(h:i<c.length):c.set i y=c.take i++(y::c.drop (i+1)):=by
 rw[b5,t8 h]
def Sn{c:List (List Nat)}{i:Nat}(y:List Nat)(h:i<c.length):(c.flatMap (aw ab)).take i++(ab y::(c.flatMap (aw ab)).drop (i+1))=(c.set i y).flatMap (aw ab):=by
 rw[QF y h,be,uV,A3];rfl
def PX(n:Nat):(rep [AV.str []] n).all ke=true:=by
 induction n with
 | zero=>rfl
 | succ n ih=>rw[rep,co,ih];rfl
def B0(l:List (List Nat))(hlen:l.length<=1000000)(hne:l≠[]):SC prog 233 [.buf 0 l.length 1 none] [.cells (l.flatMap (aw ab))] [] (λr S'=>r=.buf 0 (fe l).length 1 none/\S'=[.cells ((fe l++aU (l.length-(fe l).length) []).flatMap (aw ab))]):=by
 have h0:0<l.length:=by
  cases l with
  | nil=>exact t7 rfl hne
  | cons a l=>exact gt _
 refine J6 61 func233 ?_
 have fin:fe l=l->fe l++aU (l.length-(fe l).length) []=l:=λh=>by rw[h,d4,d0,append_nil]
 obtain⟨x0,hx0⟩:∃x,l[0]?=some x:=⟨l[0],ac h0⟩
 have ht1:fe (l.take 1)=l.take 1:=by
  rw[bz hx0,take_zero];rfl
 by_cases h2:l.length<2
 ·have hc:fe l=l:=by
   have:=ht1;rw[aj (by omega)] at this;exact this
  refine(zV)<|(az (show decide ((l.length:Int)<2)=true by simp only[wp];omega))<|(cM)<|(zE) ?_;exact zP [.tmp 2] (hq:=by (try simp only[df,aX]);first | done | (rw[fin hc,hc];exact⟨rfl,rfl⟩))
 refine(zV)<|(az (show decide ((l.length:Int)<2)=false by simp only[wd];omega))<|(iY) ?_
 (repeat refine aq.seq ?_)
 refine aq.block (aq.loop (λm st=>∃k:Nat,1<=k/\k<=l.length/\m=l.length-k/\fe (l.take k)=l.take k/\st=⟨[(0,.buf 0 l.length 1 none),(3,aa k),(1000000,.ptr 0 0)],61,[.cells (l.flatMap (aw ab))],[]⟩) (l.length-1) zH ⟨1,by omega,by omega,rfl,ht1,rfl⟩ (by rintro m st ⟨k,_,_,_,_,rfl⟩;rfl) ?_);rintro m st ⟨k,hk1,hk,rfl,hall,rfl⟩;refine(zV) ?_;by_cases hlt:k<l.length;rotate_left
 ·rw[show decide ((k:Int)<(l.length:Int))=false by simp only[wd];omega]
  refine(eN)<|(zV) ?_
  have hc:fe l=l:=by
   rw[aj (by omega)] at hall;exact hall
  refine(zE) ?_;exact zP [.tmp 2] (hq:=by (try simp only[df,aX]);first | done | (rw[fin hc,hc];exact⟨rfl,rfl⟩))
 rw[show decide ((k:Int)<(l.length:Int))=true by simp only[wp];omega];obtain⟨j,rfl⟩:∃j,k=j+1:=⟨k-1,by omega⟩;obtain⟨x,hx⟩:∃x,l[j]?=some x:=⟨l[j],ac (by omega)⟩;obtain⟨y,hy⟩:∃y,l[j+1]?=some y:=⟨l[j+1],ac hlt⟩
 have hj:j<l.length:=by omega
 refine(gh)<|(zs) ?_;refine nQ [0,0,3,7,0,0,32,112,240,511] ?_;refine(me (n7 hlt @cc (wI hy) (QV (show -9223372036854775808<=((j+1:Nat):Int)-1/\((j+1:Nat):Int)-1<=9223372036854775807 from⟨by omega,by omega⟩)) (show((j+1:Nat):Int)-1=(j:Int) from by omega) hj (wI hx)))<|(zM) ?_
 have hst:=zk hx hy;cases g:decide (y=x)
 ·have g':¬x=y:=λe=>by rw[e] at g;simp at g
  refine(zN)<|(az (qA (show -9223372036854775808<=((j+1:Nat):Int)+1/\((j+1:Nat):Int)+1<=9223372036854775807 from⟨by omega,by omega⟩))) ?_;refine⟨l.length-(j+1+1),_,by omega,zH,j+1+1,by omega,by omega,rfl,?_,rfl⟩
  rw[hst,ul g',hall,<-bz hy]
 have g':x=y:=by simpa using(ww g).symm
 refine(zY) ?_
 have hc0:fe (l.take (j+1+1))=l.take (j+1):=by rw[hst,t8 g',hall]
 refine(az (n2 (DZ hk) @cc))<|(zV) ?_
 (repeat refine aq.seq ?_)
 refine aq.block (aq.loop (λm st=>∃(k2 k:Nat) (c:List (List Nat)),(1<=k2/\k2<=l.length-(j+1))/\(j+1<=k/\k<=j+k2)/\m=l.length-k2/\(c.length=l.length/\c.take k=fe (l.take (j+1+k2))/\c.drop k=l.drop k)/\st=⟨[(0,.buf 0 l.length 1 none),(3,aa k),(4,.sub 0 (j+1) (l.length-(j+1)) 1 none),(5,aa k2),(1000000,.ptr 0 0)],61,[.cells (c.flatMap (aw ab))],[]⟩) (l.length-1) zH ⟨1,j+1,l,⟨by omega,by omega⟩,⟨by omega,by omega⟩,rfl,⟨rfl,hc0.symm,rfl⟩,rfl⟩ (by rintro m st ⟨k2,k,c,_,_,_,_,rfl⟩;rfl) ?_);rintro m st ⟨k2,k,c,⟨hk21,hk22⟩,⟨hkl,hku⟩,rfl,⟨hcl,hct,hcd⟩,rfl⟩;refine(zV) ?_;by_cases hlt2:k2<l.length-(j+1);rotate_left
 ·rw[show decide ((k2:Int)<((l.length-(j+1):Nat):Int))=false by simp only[wd];omega];refine(eN) ?_
  have hkn:k<=l.length:=by omega
  have hcN:fe l=c.take k:=by
   rw[hct,aj (by omega)]
  have hlN:(fe l).length=k:=by rw[hcN,al];omega
  have hrest:(c.flatMap (aw ab)).take k++((rep [AV.str []] (l.length-k)).map SV.a++(c.flatMap (aw ab)).drop (k+(l.length-k)))=(fe l++aU (l.length-(fe l).length) []).flatMap (aw ab):=by
   rw[hlN,DQ,uV,A3,bZ (by omega),be,<-hcN];simp
  by_cases hz:l.length-k=0
  ·have hk3:k=l.length:=by omega
   refine(zs) ?_;refine aq.r0 (by rfl) (by simp only[bI,bj,ah,an,a8,cj,↓reduceIte,af,bv,b7,a7,b6,ae,ai,aN,vD hkn,cc,hz];first | done | rfl) ?_;refine(az (n2 (I2 hkn) @ct))<|(zE) ?_;exact zP [.tmp 2] (hq:=by (try simp only[df,aX]);first | done | (rw[hlN];refine⟨rfl,?_⟩;rw[hz,d0,append_nil,hcN,hk3,aj (by omega)]))
  ·refine(zs) ?_;refine aq.r0 (by rfl) (by simp only[bI,bj,ah,an,a8,cj,↓reduceIte,af,bv,b7,a7,b6,ae,ai,aN,vD hkn,cc,hz,PX,my,hcl,show k+(l.length-k)<=l.length by omega,hrest];first | done | rfl) ?_;refine(az (n2 (I2 hkn) @ct))<|(zE) ?_;exact zP [.tmp 2] (hq:=by (try simp only[df,aX]);first | done | (rw[hlN];first | exact⟨rfl,rfl⟩ | exact⟨rfl,trivial⟩ | exact⟨trivial,trivial⟩))
 rw[show decide ((k2:Int)<((l.length-(j+1):Nat):Int))=true by simp only[wp];omega];obtain⟨i,rfl⟩:∃i,k2=i+1:=⟨k2-1,by omega⟩;obtain⟨u,hu⟩:∃u,l[j+1+i]?=some u:=⟨l[j+1+i],ac (by omega)⟩;obtain⟨v,hv⟩:∃v,l[j+1+i+1]?=some v:=⟨l[j+1+i+1],ac (by omega)⟩
 have hcu:c[j+1+i]?=some u:=by
  have:(c.drop k)[j+1+i-k]?=(l.drop k)[j+1+i-k]?:=by rw[hcd]
  rw[ce,ce,show k+(j+1+i-k)=j+1+i by omega] at this;rw[this,hu]
 have hcv:c[j+1+(i+1)]?=some v:=by
  have:(c.drop k)[j+1+i+1-k]?=(l.drop k)[j+1+i+1-k]?:=by rw[hcd]
  rw[ce,ce,show k+(j+1+i+1-k)=j+1+i+1 by omega] at this;rw[<-Nat.add_assoc,this,hv]
 have hi:i<l.length-(j+1):=by omega
 have hs2:=zk hu hv
 refine(gh)<|(zs) ?_;refine nQ [0,0,3,7,0,0,32,112,240,511] ?_;refine(me (n7 hlt2 @cc (wI hcv) (QV (show -9223372036854775808<=((i+1:Nat):Int)-1/\((i+1:Nat):Int)-1<=9223372036854775807 from⟨by omega,by omega⟩)) (show((i+1:Nat):Int)-1=(i:Int) from by omega) hi (wI hcu)))<|(zM) ?_
 cases g2:decide (v=u);rotate_left
 ·have g3:u=v:=(ww g2).symm
  refine(zN)<|(az (qA (show -9223372036854775808<=((i+1:Nat):Int)+1/\((i+1:Nat):Int)+1<=9223372036854775807 from⟨by omega,by omega⟩))) ?_;refine⟨l.length-(i+1+1),_,by omega,zH,i+1+1,k,c,⟨by omega,by omega⟩,⟨by omega,by omega⟩,rfl,⟨hcl,?_,hcd⟩,rfl⟩
  rw[t8 g3] at hs2;rw[show j+1+(i+1+1)=j+1+i+1+1 by omega,hs2,hct];rfl
 have g3:¬u=v:=λe=>by rw[e] at g2;simp at g2
 have hkn:k<l.length:=by omega
 have hkc:k<c.length:=by omega
 refine(zY)<|(az (n8 hlt2 @cc (wI hcv) hkn @my hcl (show k+1<=l.length by omega) (Sn v hkc)))<|(az (qA (show -9223372036854775808<=(k:Int)+1/\(k:Int)+1<=9223372036854775807 from⟨by omega,by omega⟩)))<|(az (qA (show -9223372036854775808<=((i+1:Nat):Int)+1/\((i+1:Nat):Int)+1<=9223372036854775807 from⟨by omega,by omega⟩))) ?_;refine⟨l.length-(i+1+1),_,by omega,zH,i+1+1,k+1,c.set k v,⟨by omega,by omega⟩,⟨by omega,by omega⟩,rfl,⟨by rw[bi,hcl],?_,?_⟩,rfl⟩
 ·rw[ul g3] at hs2;rw[show j+1+(i+1+1)=j+1+i+1+1 by omega,hs2,QF v hkc,em,al,aS (by omega),show k+1-k=1 by omega,dt,f4 (by omega),hct];rfl
 ·rw[go,t8 (by omega)];have:=congrArg (List.drop 1) hcd;rw[d6,d6] at this;exact this
def bp(o e n:Nat):SV:=if n=0 then cI else .buf o n e none
def q8{α:Type}(o:Nat)(l:List α)(enc:α->List SV):List SO:=if l=[] then [] else aU o .gone++[.cells (l.flatMap enc)]
def eO(o e:Nat):bp o e 0=cI:=rfl
def Ey(o e n:Nat):bp o e (n+1)=.buf o (n+1) e none:=rfl
def bU{o e n:Nat}(h:¬n=0):bp o e n=.buf o n e none:=ul h
def mA{α:Type}(o:Nat)(enc:α->List SV):q8 o [] enc=[]:=rfl
def jk{α:Type}{o:Nat}{l:List α}{enc:α->List SV}(h:¬l=[]):q8 o l enc=aU o .gone++[.cells (l.flatMap enc)]:=ul h
def ng{α:Type}(o:Nat)(l:List α)(x:α)(enc:α->List SV):q8 o (l++[x]) enc=aU o .gone++[.cells ((l++[x]).flatMap enc)]:=ul (by simp)
def aL{α:Type}{enc:α->List SV}{e:Nat}(he:∀x,(enc x).length=e):∀l:List α,(l.flatMap enc).length=l.length*e
 | []=>by simp
 | a::l=>by rw[flatMap_cons,length_append,he,aL he l,length_cons,d5,eC]
def c9{α:Type}{enc:α->List SV}{e:Nat}(he:∀x,(enc x).length=e)(l:List α):(l.flatMap enc).take (l.length*e)=l.flatMap enc:=
 aj (by rw[aL he];exact ad _)
def en{α:Type}{enc:α->List SV}{e:Nat}(he:∀x,(enc x).length=e)(hg:∀x,cm (enc x)=true)(o:Nat)(l:List α)(x:α):((l.flatMap enc).take (l.length*e)++enc x).map (aM o)=(l++[x]).flatMap enc:=by
 rw[c9 he,c0,bL (hg x),bL (aA hg l),be];simp
def aY{α:Type}{enc:α->List SV}(hg:∀x,cm (enc x)=true)(o:Nat)(l:List α):(l.flatMap enc).map (aM o)=l.flatMap enc:=bL (aA hg l)
def Mv{α:Type}{enc:α->List SV}{e o:Nat}(he:∀x,(enc x).length=e)(hg:∀x,cm (enc x)=true)(l:List α):Wk (q8 o l enc) (bp o e l.length) (ah e l enc):=by
 by_cases h:l=[]
 ·subst h;exact Wk.nil _
 ·have h0:¬l.length=0:=λe=>h (length_eq_zero_iff.1 e);rw[bU h0,jk h];refine Wk.buf (cs:=l.flatMap enc) ?_ ?_ ?_
  ·rw[List.getElem?_append_right (by rw[cp];exact ad _),cp,d4];rfl
  ·rw[c9 he];exact bl.refl (aA hg l)
  ·rw[aL he];exact ad _
def vi:PC prog 96 [cI] (·=.a (.bC [])):=by
 intro ρ h avs _ hA;rw[eE] at hA;obtain⟨a,r,rfl,hA1,hA2⟩:=hA;rw[gL] at hA2;subst hA2;rw[GS] at hA1;subst hA1;refine(xN [] _ h.next h ⟨by simp,.inl ⟨rfl,rfl⟩⟩ (by simp)).mono ?_;rintro v h' ⟨rfl,_,_,_,_,ho,_⟩;exact⟨_,ρ,rfl,ho,λid ob hi=>.inl hi,by rw[GS]⟩
def yd:PC prog 233 [cI] (·=cI):=by
 refine pB 61 func233 ?_;exact(mO)<|(cM)<|zo [.tmp 2]
def NM(l:List (List Nat)):List (List Nat):=fe (dM l)
def QE:NM []=[]:=rfl
def Ii(ls:List (List (List Nat)))(hl:ls.length<=1000000)(hb:ls.flatten.length<=1000000):PC prog 207 [ah 1 ls jl] (·=ah 1 (NM ls.flatten) (aw ab)):=by
 refine pB 10 Tryz.func207 ?_;have hc:=H3 ls hl hb;refine(kK) ?_;by_cases h0:ls.flatten=[]
 ·rw[qf,Qy,t8 h0,t8 h0] at hc
  refine zS [] trivial hc ?_;exact(zR)<|(zC)<|(zK vi)<|(zR)<|(zC)<|(zK yd)<|(zR)<|zo [.tmp 2] (r:=.sl 0 1 []) (hw:=Wk.nil _) (hq:=by rw[h0,QE];rfl)
 ·rw[qf,Qy,ul h0,ul h0] at hc;have hl2:(dM ls.flatten).length=ls.flatten.length:=(rp ls.flatten).length_eq;have h1:dM ls.flatten≠[]:=λe=>h0 (length_eq_zero_iff.1 (by rw[<-hl2,e];rfl));have hcc:=B0 (dM ls.flatten) (by rw[hl2];exact hb) h1;rw[hl2] at hcc
  refine zS [] trivial hc ?_;refine(zR)<|(zC) ?_;refine zS [0] trivial (tC _ hb h0) ?_;refine(zR)<|(zC) ?_;refine zS [0] trivial hcc ?_;exact(zR)<|zo [.tmp 2] (r:=ah 1 (NM ls.flatten) (aw ab)) (hw:=by exact .buf rfl (by rw[cc,uV,List.take_left'];(exact bl.refl (LB _));rfl) (by rw[my,length_append];omega))
def q6(r:br):List (List Nat):=if Proofs.fX r=false then [] else NM (r.opts.map cJ).flatten
def Hf(e:bH):(cJ e).length<=2:=by
 unfold cJ;split
 ·simp
 ·split<;>simp
def Eb(k:Nat):∀ls:List bH,(ls.map cJ).flatten.length<=2*ls.length
 | []=>by simp
 | a::l=>by
  have:=Eb k l;have:=Hf a;rw[d3,f0,length_append,length_cons];omega
def sa(l:List (List Nat)):(jl l).length=1:=rfl
def wJ(l:List (List Nat)):cm (jl l)=true:=rfl
def KN(r:br)(hr:eh r)(hlen:r.opts.length<=400000):PC prog 143 [.ag (aB r)] (·=ah 1 (q6 r) (aw ab)):=by
 refine pB 24 Tryz.func143 ?_;refine(az @aB.eq_1)<|(zC)<|(zK (oA r hr)) ?_
 cases h1:Proofs.fX r
 ·exact(zR)<|(cM)<|zo [.tmp 2] (r:=.sl 0 1 []) (hw:=Wk.nil _) (hq:=by rw[q6,t8 h1];rfl)
 refine(zR)<|(iY)<|(az @ah.eq_1)<|(zs) ?_;refine zL r.opts (λk=>True) (λk=>[(3,bp 2 1 k),(10,ah 14 r.opts aF),(11,aa r.opts.length),(12,aa k)]) (λk=>q8 2 ((r.opts.take k).map Proofs.cJ) jl) (bK (n4 @take_zero.{0} @List.map_nil.{0,0} @eO @mA)) zp ?_;intro k hk hall;refine zT r.opts k ?_ ?_;rintro rfl;rotate_left;intro e hx hlt;rotate_left
 ·refine(eN) ?_
  have hpos:¬r.opts.length=0:=by
   intro h;unfold Proofs.fX at h1;rw[h] at h1;simp at h1
  have hne:¬r.opts.map Proofs.cJ=[]:=λh=>hpos (by have:=congrArg gc h;rwa [ap] at this);rw[bs,bU hpos,jk hne];refine aq.fg (Fg.freeze (f':=[(3,ah 1 (r.opts.map Proofs.cJ) jl)]) 2 rfl (λh=>by cases h) ⟨.inr ?_,trivial⟩) ?_
  ·have:=Wk.buf (S:=nB 2 (.cells ((r.opts.map Proofs.cJ).flatMap jl))) (o:=2) (n:=r.opts.length) (e:=1) (c:=none) (cs:=(r.opts.map Proofs.cJ).flatMap jl) (ds:=(r.opts.map Proofs.cJ).flatMap jl) rfl ?_ ?_
   ·rw[ah,ap];exact this
   ·have h2:=c9 sa (r.opts.map Proofs.cJ);rw[ap] at h2;rw[h2];exact bl.refl (aA wJ _)
   ·rw[aL sa,ap];exact ad _
  exact(zC)<|(zK (Ii (r.opts.map Proofs.cJ) (by rw[ap];omega) (by have:=Eb 0 r.opts;omega)) (hfl:=.inr (bl.refl rfl)))<|(zR)<|zo [.tmp 2] (r:=ah 1 (NM (r.opts.map Proofs.cJ).flatten) (aw ab)) (hw:=Wk.refl rfl) (hq:=by rw[q6,ul (by rw[h1];decide)])
 have he:qC e:=hr.ev e (bk hx);refine(gh) ?_;have ht:=bz hx;by_cases hk0:k=0
 ·rw[show(r.opts.take k).map Proofs.cJ=[] by rw[hk0];rfl,mA,show bp 2 1 k=cI by rw[hk0];rfl]
  have ht1:(r.opts.take (k+1)).map Proofs.cJ=[]++[Proofs.cJ e]:=by rw[ht,hk0];rfl
  have hn1:bp 2 1 (k+1)=.buf 2 1 1 none:=by rw[hk0];rfl
  refine(az (n3 hlt (aH (e:=14) (enc:=aF) (λ_=>rfl) hx) @aF.eq_1))<|(iC @aF.eq_1)<|(zK (vf e he) (hfl:=.inr (bl.refl rfl)))<|(zR)<|(az (zi hlt hr.len)) ?_;refine zX hlt (bK (n8 ht1 hn1 @ng @flatMap_cons.{0,0} @flatMap_nil.{0,0} @jl.eq_1 @nil_append.{0} rh)) trivial
 have hne:¬(r.opts.take k).map Proofs.cJ=[]:=λh=>hk0 (by have:=congrArg gc h;rw[ap,al,aS (by omega)] at this;exact this);rw[jk hne,bU hk0]
 have hlk:((r.opts.take k).map Proofs.cJ).length=k:=by rw[ap,al,aS (by omega)]
 have ht1:(r.opts.take (k+1)).map Proofs.cJ=(r.opts.take k).map Proofs.cJ++[Proofs.cJ e]:=by rw[ht,c0];rfl
 have hcl:=aL sa ((r.opts.take k).map Proofs.cJ);rw[hlk] at hcl;have happ:=en sa wJ 2 ((r.opts.take k).map Proofs.cJ) (Proofs.cJ e);rw[hlk,jl,ah] at happ;have hkc:=λo=>aY wJ o ((r.opts.take k).map Proofs.cJ)
 refine(az (n5 hlt (aH (e:=14) (enc:=aF) (λ_=>rfl) hx) @aF.eq_1 rh hkc))<|(iC @aF.eq_1)<|(zK (vf e he) (hfl:=.inr (bl.refl rfl)))<|(cK (n5 hcl happ hkc (show k<=1000000 by omega) @ad))<|(az (zi hlt hr.len)) ?_;refine zX hlt (bK (n4 ht1 @Ey @ng rh)) trivial
def LP(p:br×Int):Bool:=!(decide (p.2<0))&&!(decide (bD p.1<=p.2))
def gO(p:br×Int):List bH:=(p.1.opts[p.2.toNat]?).toList
def mB(l:List br)(ch:List Int):Option (List bH):=if l.length=ch.length then (if (l.zip ch).all LP then some ((l.zip ch).flatMap gO) else none) else none
def L4:Option (List bH)->SV
 | some es=>.bC [ah 14 es aF,aa 0]
 | none=>.bC [.sl 0 14 [],aa 1]
def dP(e:bH):(aF e).length=14:=rfl
def dW(e:bH):aF e=[aa e.op,aa e.day,ab e.part,ab e.kind,ab e.bG,ab e.slot,ab e.key,ab e.value,aa e.u1,aa e.u2,aa e.u3,aa e.u4,aa e.u5,aa e.u6]:=rfl
def dn(e:bH):cm (aF e)=true:=rfl
def P7(p:br×Int):(gO p).length<=1:=by
 unfold gO;cases p.1.opts[p.2.toNat]?<;>simp
def s7:∀l:List (br×Int),(l.flatMap gO).length<=l.length
 | []=>by simp
 | a::l=>by
  have:=P7 a;have:=s7 l;rw[flatMap_cons,length_append,length_cons];omega
def sU(r:br):bD r<=(r.opts.length:Int)+1:=by
 unfold bD;split
 ·omega
 ·split<;>omega
def It(l:List br)(ch:List Int)(hl:∀r∈l,eh r)(hlen:l.length<=1000000)(hlc:ch.length<=1000000):PC prog 54 [ah 2 l aB,ah 1 ch (aw aa)] (·=L4 (mB l ch)):=by
 refine pB 49 Tryz.func54 ?_;refine(zV) ?_
 (repeat refine aq.seq ?_)
 refine aq.scope ?_;refine(zV) ?_;by_cases heq:l.length=ch.length;rotate_left
 ·rw[show(!decide ((l.length:Int)=(ch.length:Int)))=true by simp;omega]
  exact(cM)<|iP [.tmp 4,.tmp 5] (r:=.bC [.sl 0 14 [],aa 1]) (hw:=.bC (.cons (.nil _) (.cons (.a _) .nil))) (hq:=by rw[mB,ul heq];rfl)
 rw[show(!decide ((l.length:Int)=(ch.length:Int)))=false by simp;omega];refine(iY) ?_
 (repeat refine aq.seq ?_)
 refine aq.label ?_
 (try change aq _ _ _ _ _)
 refine(zV) ?_
 have hz:∀{k:Nat} {r:br} {n:Int},l[k]?=some r->ch[k]?=some n->(l.zip ch)[k]?=some (r,n):=λh1 h2=>by
  rw[List.getElem?_zip_eq_some];exact⟨h1,h2⟩
 refine(zs) ?_;refine zL l (λk=>((l.zip ch).take k).all LP=true) (λk=>[(1,ah 1 ch (aw aa)),(6,bp 2 14 (((l.zip ch).take k).flatMap gO).length),(15,ah 2 l aB),(16,aa l.length),(17,aa k)]) (λk=>q8 2 (((l.zip ch).take k).flatMap gO) aF) (bK (n5 @take_zero.{0} @flatMap_nil.{0,0} @length_nil.{0} @eO @mA)) zp ?_;intro k hk hall;refine zT l k ?_ ?_;rintro rfl;rotate_left;intro r hx hlt;rotate_left
 ·refine(eN) ?_
  have hzl:(l.zip ch).length=l.length:=by rw[List.length_zip,<-heq,f5]
  rw[<-hzl,bs] at hall ⊢
  exact(zV)<|iP [.tmp 4,.tmp 5] (r:=.bC [ah 14 ((l.zip ch).flatMap gO) aF,aa 0]) (hw:=.bC (.cons (Mv dP dn _) (.cons (.a _) .nil))) (hq:=by rw[mB,t8 heq,t8 hall];rfl)
 have hrk:eh r:=hl r (bk hx);have hr1:=hrk.len;obtain⟨n,hn⟩:∃n,ch[k]?=some n:=⟨ch[k],ac (by omega)⟩;have hzk:=hz hx hn;have ht:=bz hzk
 have hlc2:k<ch.length:=by omega
 have hall2:LP (r,n)=true->((l.zip ch).take (k+1)).all LP=true:=λh=>by
  rw[ht,co,hall];show(true&&(LP (r,n)&&true))=true;rw[h];rfl
 have hbad:LP (r,n)=false->mB l ch=none:=λh=>by
  rw[mB,t8 heq,ul];intro h2;have:=all_eq_true.1 h2 _ (bk hzk);rw[h] at this;cases this
 have hol:(((l.zip ch).take k).flatMap gO).length<=k:=by
  have:=s7 ((l.zip ch).take k);rw[al] at this;omega
 have hfm:((l.zip ch).take (k+1)).flatMap gO=((l.zip ch).take k).flatMap gO++gO (r,n):=by rw[ht,be];simp
 generalize hO:((l.zip ch).take k).flatMap gO=out at hol hfm;refine(gh) ?_;have hcl:=aL dP out;have hkc:=λo=>aY dn o out
 have fin:gO (r,n)=[]->bp 2 14 (((l.zip ch).take (k+1)).flatMap gO).length=bp 2 14 out.length/\q8 2 (((l.zip ch).take (k+1)).flatMap gO) aF=q8 2 out aF:=λh=>by rw[hfm,h,append_nil];exact⟨rfl,rfl⟩
 by_cases hk0:out=[]
 ·rw[show q8 2 out aF=[] by rw[hk0];rfl,show bp 2 14 out.length=cI by rw[hk0];rfl]
  refine(az (n3 hlt (aH (e:=2) (enc:=aB) (λ_=>rfl) hx) @aB.eq_1))<|(az (n3 hlc2 (aH (e:=1) (enc:=aw aa) (λ_=>rfl) hn) @aw.eq_1)) ?_
  cases g1:decide (n<0);rotate_left
  ·exact(az g1)<|(cM)<|iP [.tmp 4,.tmp 5] (r:=.bC [.sl 0 14 [],aa 1]) (hw:=.bC (.cons (.nil _) (.cons (.a _) .nil))) (hq:=by rw[hbad (by rw[LP,g1];rfl)];rfl)
  have hn0:=wt g1;obtain⟨i,rfl⟩:∃i:Nat,n=(i:Int):=⟨n.toNat,by omega⟩
  refine(iC g1)<|(zK (iM r hrk)) ?_
  cases g2:decide (bD r<=(i:Int));rotate_left
  ·exact(cK g2)<|(cM)<|iP [.tmp 4,.tmp 5] (r:=.bC [.sl 0 14 [],aa 1]) (hw:=.bC (.cons (.nil _) (.cons (.a _) .nil))) (hq:=by rw[hbad (by rw[LP,g1,g2];rfl)];rfl)
  refine(cK g2)<|(zN) ?_
  have hok:LP (r,(i:Int))=true:=by rw[LP,g1,g2];rfl
  have hcl2:=sU r;have hi1:=wt g2;by_cases g3:i=r.opts.length
  ·have hp:gO (r,(i:Int))=[]:=by
    show(r.opts[i]?).toList=[];rw[ci (by omega)];rfl
   obtain⟨f1,f2⟩:=fin hp;have hE1:bp 2 14 out.length=cI:=(by rw[hk0];rfl);have hE2:q8 2 out aF=[]:=(by rw[hk0];rfl)
   refine(az (show decide ((i:Int)=(r.opts.length:Int))=true by simp only[wp];omega))<|(zY) ?_;refine aq.exit ?_;refine(az (zi hlt hlen)) ?_;refine zX hlt (bK (n4 f1 f2 hE1 hE2)) (hall2 hok)
  ·have hi2:i<r.opts.length:=by omega
   obtain⟨e,hei⟩:∃e,r.opts[i]?=some e:=⟨r.opts[i],ac hi2⟩
   have hp:gO (r,(i:Int))=[e]:=by
    show(r.opts[i]?).toList=[e];rw[hei];rfl
   refine(az (show decide ((i:Int)=(r.opts.length:Int))=false by simp only[wd];omega))<|(zN) ?_
   rw[hp] at hfm
   have hE3:bp 2 14 (((l.zip ch).take (k+1)).flatMap gO).length=.buf 2 1 14 none:=by rw[hfm,hk0];rfl
   have hE4:q8 2 (((l.zip ch).take (k+1)).flatMap gO) aF=[.gone,.gone,.cells (aF e)]:=by rw[hfm,hk0];rfl
   refine(az (n3 hi2 (aH (e:=14) (enc:=aF) (λ_=>rfl) hei) @aF.eq_1))<|(az (zi hlt hlen)) ?_;refine zX hlt (bK (n3 hE3 hE4 @aF.eq_1)) (hall2 hok)
 ·have hk1:¬out.length=0:=λh=>hk0 (length_eq_zero_iff.1 h);rw[jk hk0,bU hk1]
  refine(az (n5 hlt (aH (e:=2) (enc:=aB) (λ_=>rfl) hx) @aB.eq_1 rh hkc))<|(az (n3 hlc2 (aH (e:=1) (enc:=aw aa) (λ_=>rfl) hn) @aw.eq_1)) ?_
  cases g1:decide (n<0);rotate_left
  ·exact(az g1)<|(cM)<|iP [.tmp 4,.tmp 5] (r:=.bC [.sl 0 14 [],aa 1]) (hw:=.bC (.cons (.nil _) (.cons (.a _) .nil))) (hq:=by rw[hbad (by rw[LP,g1];rfl)];rfl)
  have hn0:=wt g1;obtain⟨i,rfl⟩:∃i:Nat,n=(i:Int):=⟨n.toNat,by omega⟩
  refine(iC g1)<|(zK (iM r hrk)) ?_
  cases g2:decide (bD r<=(i:Int));rotate_left
  ·exact(cK g2)<|(cM)<|iP [.tmp 4,.tmp 5] (r:=.bC [.sl 0 14 [],aa 1]) (hw:=.bC (.cons (.nil _) (.cons (.a _) .nil))) (hq:=by rw[hbad (by rw[LP,g1,g2];rfl)];rfl)
  refine(cK g2)<|(zN) ?_
  have hok:LP (r,(i:Int))=true:=by rw[LP,g1,g2];rfl
  have hcl2:=sU r;have hi1:=wt g2;by_cases g3:i=r.opts.length
  ·have hp:gO (r,(i:Int))=[]:=by
    show(r.opts[i]?).toList=[];rw[ci (by omega)];rfl
   obtain⟨f1,f2⟩:=fin hp
   skip
   refine(az (n2 hkc (show decide ((i:Int)=(r.opts.length:Int))=true by simp only[wp];omega)))<|(zY) ?_;refine aq.exit ?_;refine(zs) ?_;refine aq.r0 (by rfl) (iZ (qA (oH hlt hlen (by decide)))) ?_;refine⟨l.length-(k+1),_,by omega,(Fg.less (by (simp only[bI,bj,dI,↓reduceIte,af,ah,f1,f2,bU hk1,jk hk0,aU])<;>(repeat' apply b8)<;>first | rfl | trivial) (by (simp only[bI,bj,or_true,true_or,ah,f1,f2,bU hk1,jk hk0,aU])<;>(repeat' apply b8)<;>first | exact .inr rfl | exact .inl rfl | trivial)),k+1,by omega,rfl,(hall2 hok),rfl⟩
  ·have hi2:i<r.opts.length:=by omega
   obtain⟨e,hei⟩:∃e,r.opts[i]?=some e:=⟨r.opts[i],ac hi2⟩
   have hp:gO (r,(i:Int))=[e]:=by
    show(r.opts[i]?).toList=[e];rw[hei];rfl
   refine(az (n2 hkc (show decide ((i:Int)=(r.opts.length:Int))=false by simp only[wd];omega)))<|(zN) ?_
   rw[hp] at hfm;have happ:=en dP dn 2 out e;rw[dW] at happ
   have hE3:bp 2 14 (((l.zip ch).take (k+1)).flatMap gO).length=.buf 2 (out.length+1) 14 none:=by rw[hfm,length_append];rfl
   have hE4:q8 2 (((l.zip ch).take (k+1)).flatMap gO) aF=[.gone,.gone,.cells ((out++[e]).flatMap aF)]:=by rw[hfm,ng];rfl
   refine(az (n8 hi2 (aH (e:=14) (enc:=aF) (λ_=>rfl) hei) @aF.eq_1 hcl hkc (show out.length<=1000000 by omega) @ad happ))<|(az (zi hlt hlen)) ?_;refine zX hlt (bK (n2 hE3 hE4)) (hall2 hok)
section
variable {α:Type} {c:α->SV}
def yG(l:List α):l.flatMap (aw c)=l.map c:=by
 induction l with
 | nil=>rfl
 | cons a l ih=>rw[flatMap_cons,ih];rfl
def EE{l:List α}{i:Nat}{x:α}(h:l[i]?=some x):(l.flatMap (aw c))[i]?=some (c x):=by
 rw[yG,cl,h];rfl
def uC(l:List α):(l.flatMap (aw c)).length=l.length:=by rw[yG,List.length_map]
def Hr{l:List α}{i:Nat}(y:α)(h:i<l.length):(l.flatMap (aw c)).take i++(c y::(l.flatMap (aw c)).drop (i+1))=(l.set i y).flatMap (aw c):=by
 rw[yG,yG,List.map_set,b5,t8 (by rw[ap];exact h)]
end
abbrev cD(n:Nat):SV:=aa (n:Int)
def iR(f:List Nat):Prop:=∀(j:Nat) x,f[j]?=some x->x<=j
def uL:Nat->List Nat->Nat->Nat×List Nat
 | 0,f,i=>(i,f)
 | s+1,f,i=>if f.getD i 0=i then (i,f) else uL s (f.set i (f.getD (f.getD i 0) 0)) (f.getD (f.getD i 0) 0)
def gP(f:List Nat)(i:Nat):Nat×List Nat:=uL i f i
def iR.set{f:List Nat}(h:iR f){i y:Nat}(hy:y<=i):iR (f.set i y):=by
 intro j x hx;by_cases e:i=j
 ·subst e
  have hl:i<f.length:=by
   have:=bf hx;rwa [bi] at this
  rw[d9 hl] at hx;cases hx;exact hy
 ·rw[List.getElem?_set_ne e] at hx;exact h j x hx
def HL:∀(s:Nat) (f:List Nat) (i:Nat),iR f->i<f.length->iR (uL s f i).2/\(uL s f i).2.length=f.length/\(uL s f i).1<=i
 | 0,f,i,h,hi=>⟨h,rfl,Nat.le_refl _⟩
 | s+1,f,i,h,hi=>by
  unfold uL;split
  ·exact⟨h,rfl,Nat.le_refl _⟩
  ·obtain⟨p,hp⟩:∃p,f[i]?=some p:=⟨f[i],List.getElem?_eq_getElem hi⟩;have hpi:=h i p hp;obtain⟨q,hq⟩:∃q,f[p]?=some q:=⟨f[p],List.getElem?_eq_getElem (by omega)⟩;have hqp:=h p q hq
   have e1:f.getD i 0=p:=by rw[List.getD_eq_getElem?_getD,hp];rfl
   have e2:f.getD p 0=q:=by rw[List.getD_eq_getElem?_getD,hq];rfl
   rw[e1,e2];obtain⟨g1,g2,g3⟩:=HL s (f.set i q) q (h.set (by omega)) (by rw[List.length_set];omega);exact⟨g1,by rw[g2,List.length_set],by omega⟩
def qe{f:List Nat}{i:Nat}(h:iR f)(hi:i<f.length):iR (gP f i).2/\(gP f i).2.length=f.length/\(gP f i).1<=i:=HL i f i h hi
def se(f:List Nat)(i:Nat)(hf:iR f)(hi:i<f.length)(hlen:f.length<=1000000):SC prog 105 [.buf 0 f.length 1 none,cD i] [.cells (f.flatMap (aw cD))] [] (λr S'=>r=cD (gP f i).1/\S'=[.cells ((gP f i).2.flatMap (aw cD))]):=by
 refine J6 26 Tryz.func105 ?_;refine(zV) ?_
 (repeat refine aq.seq ?_)
 refine aq.block (aq.loop (λm st=>∃(g:List Nat) (j s:Nat),(iR g/\g.length=f.length/\j<f.length)/\(j<=s/\uL s g j=gP f i)/\j=m/\st=⟨[(0,.buf 0 f.length 1 none),(1,cD j),(1000000,.ptr 0 0)],26,[.cells (g.flatMap (aw cD))],[]⟩) i zH ⟨f,i,i,⟨hf,rfl,hi⟩,⟨ad _,rfl⟩,rfl,rfl⟩ (by rintro m st ⟨g,j,s,_,_,_,rfl⟩;rfl) ?_);rintro m st ⟨g,j,s,⟨hg,hgl,hj⟩,⟨hs,hr⟩,rfl,rfl⟩;obtain⟨p,hp⟩:∃p,g[j]?=some p:=⟨g[j],ac (by omega)⟩;have hpj:=hg j p hp;obtain⟨q,hq⟩:∃q,g[p]?=some q:=⟨g[p],ac (by omega)⟩;have hqp:=hg p q hq
 have e1:g.getD j 0=p:=by rw[cf,hp];rfl
 have e2:g.getD p 0=q:=by rw[cf,hq];rfl
 refine(zs) ?_;refine aq.r0 (by rfl) (by simp only[bI,bj,ah,an,a8,cj,↓reduceIte,af,bv,b7,a7,b6,ae,ai,aN,hj,cc,EE hp];first | done | rfl) ?_;by_cases hpe:p=j
 ·rw[show(!decide ((p:Int)=(j:Int)))=false by simp;omega]
  refine(eN)<|(zV) ?_
  have hr2:gP f i=(j,g):=by
   rw[<-hr]
   cases s with
   | zero=>rfl
   | succ s=>rw[uL,e1,t8 hpe]
  refine(zE) ?_;exact zP [.tmp 4] (hq:=by (try simp only[df,aX]);first | done | (rw[hr2];exact⟨rfl,rfl⟩))
 rw[show(!decide ((p:Int)=(j:Int)))=true by simp;omega];refine(gh) ?_
 have hpl:p<f.length:=by omega
 have hjg:j<g.length:=by omega
 refine(zs) ?_;refine aq.r0 (by rfl) (by simp only[bI,bj,ah,an,a8,cj,↓reduceIte,af,bv,b7,a7,b6,ae,ai,aN,hj,hpl,cc,EE hp,EE hq,uC,hgl,show j+1<=f.length by omega,Hr q hjg];first | done | rfl) ?_;have hsq:(g.set j q)[j]?=some q:=d9 hjg;refine(zs) ?_;refine aq.r0 (by rfl) (by simp only[bI,bj,ah,an,a8,cj,↓reduceIte,af,bv,b7,a7,b6,ae,ai,aN,hj,cc,EE hsq];first | done | rfl) ?_;obtain⟨s',rfl⟩:∃s',s=s'+1:=⟨s-1,by omega⟩;refine⟨q,_,by omega,zH,g.set j q,q,s',⟨hg.set (by omega),by rw[bi,hgl],by omega⟩,⟨by omega,?_⟩,rfl,rfl⟩;rw[<-hr,uL,e1,ul hpe,e2]
def Ah(f:List Nat)(i k:Nat):List Nat:=(gP (gP f i).2 k).2.set (max (gP f i).1 (gP (gP f i).2 k).1) (min (gP f i).1 (gP (gP f i).2 k).1)
def RE{f:List Nat}{i k:Nat}(h:iR f)(hi:i<f.length)(hk:k<f.length):iR (Ah f i k)/\(Ah f i k).length=f.length:=by
 obtain⟨a1,a2,a3⟩:=qe h hi;obtain⟨b1,b2,b3⟩:=qe (i:=k) a1 (by rw[a2];exact hk);exact⟨b1.set (by omega),by rw[Ah,bi,b2,a2]⟩
def RI(a b:Nat):tg true (.int .i64 (a:Int)) (.int .i64 (b:Int))=some (.int .i64 ((max a b:Nat):Int)):=by
 rw[Hc];congr 2;omega
def RM(a b:Nat):tg false (.int .i64 (a:Int)) (.int .i64 (b:Int))=some (.int .i64 ((min a b:Nat):Int)):=by
 rw[Hd];congr 2;omega
def rl(r:Nat->Nat)(l:List Nat):lr r (l.flatMap (aw cD))=l.flatMap (aw cD):=bg (aA (λ_=>rfl) l)
def ie(o:Nat)(l:List Nat):(l.flatMap (aw cD)).map (aM o)=l.flatMap (aw cD):=bL (aA (λ_=>rfl) l)
def nU(B:Nat)(l:List Nat):gC B (l.flatMap (aw cD))=true:=bF (aA (λ_=>rfl) l)
def N4(f:List Nat)(i k:Nat)(hf:iR f)(hi:i<f.length)(hk:k<f.length)(hlen:f.length<=1000000):SC prog 144 [.buf 0 f.length 1 none,cD i,cD k] [.cells (f.flatMap (aw cD))] [] (λr S'=>r=.bC []/\S'=[.cells ((Ah f i k).flatMap (aw cD))]):=by
 refine J6 22 Tryz.func144 ?_;have h1:=se f i hf hi hlen;have k1:=qe hf hi;obtain⟨a,f1,hA⟩:∃a f1,gP f i=(a,f1):=⟨_,_,rfl⟩;rw[hA] at h1 k1;simp only at h1 k1;obtain⟨q1,q2,q3⟩:=k1;have h2:=se f1 k q1 (by rw[q2];exact hk) (by rw[q2];exact hlen);have k2:=qe (i:=k) q1 (by rw[q2];exact hk);obtain⟨b,f2,hB⟩:∃b f2,gP f1 k=(b,f2):=⟨_,_,rfl⟩;rw[hB] at h2 k2;rw[q2] at h2;simp only at h2 k2;obtain⟨p1,p2,p3⟩:=k2
 have hj:Ah f i k=f2.set (max a b) (min a b):=by rw[Ah,hA];simp only;rw[hB]
 refine(zC) ?_;refine zS [0] (n3 @rl @nU @ie) h1 ?_;refine(zQ) ?_;refine zS [0] (n3 @rl @nU @ie) h2 ?_;refine(zR) ?_
 have hm:max a b<f.length:=by omega
 have hm2:max a b<f2.length:=by omega
 refine(zs) ?_;refine aq.r0 (by rfl) (by simp only[bI,bj,ah,an,a8,cj,↓reduceIte,af,bv,b7,a7,b6,ae,ai,aN,RI,RM,hm,cc,uC,p2,q2,show max a b+1<=f.length by omega,Hr (min a b) hm2];first | done | rfl) ?_;exact zP [] (hq:=by (try simp only[df,aX]);first | done | (rw[hj];first | exact⟨rfl,rfl⟩ | exact⟨trivial,trivial⟩ | exact⟨trivial,rfl⟩ | exact⟨rfl,trivial⟩))
def rM(a0 a1 d:Int):Int:=eX (qQ a0 d) (qQ a1 d)
def rL(a0 a1 d:Int):Int:=ee (qQ a0 d) (qQ a1 d)
def xD(a0 a1 lo hi:Int)(h:lo<=hi):SC prog 276 [aa lo,aa hi,.ptr 0 0,.ptr 1 0] [.cells [aa a0,aa a1],.cells [cI]] []
 (λr S'=>r=.bC []/\S'=[.cells [aa a0,aa a1],.cells [.buf 4 2 2 none],.gone,.gone,.cells [aa (rM a0 a1 lo),aa (rL a0 a1 lo),aa (rM a0 a1 hi),aa (rL a0 a1 hi)]]):=by
 refine UZ 40 fd ?_;refine(az (show decide (lo<=hi)=true by simpa using h)) ?_
 (repeat refine aq.seq ?_)
 refine aq.yes rfl ?_;refine(zV) ?_
 (repeat refine aq.seq ?_)
 refine aq.block (aq.loop (λm st=>
  (m=2/\st=⟨[(2,.ptr 0 0),(3,.ptr 1 0),(15,.buf 2 2 1 (some 2)),(16,aa 2),(17,aa 0),(1000000,.ptr 0 0),(1000001,.ptr 1 0)],40,[.cells [aa a0,aa a1],.cells [cI],.cells [aa lo,aa hi]],[]⟩)\/
  (m=1/\st=⟨[(2,.ptr 0 0),(3,.ptr 1 0),(15,.buf 2 2 1 (some 2)),(16,aa 2),(17,aa 1),(1000000,.ptr 0 0),(1000001,.ptr 1 0)],40,[.cells [aa a0,aa a1],.cells [.buf 4 1 2 none],.cells [aa lo,aa hi],.gone,.cells [aa (rM a0 a1 lo),aa (rL a0 a1 lo)]],[]⟩)\/
  (m=0/\st=⟨[(2,.ptr 0 0),(3,.ptr 1 0),(15,.buf 2 2 1 (some 2)),(16,aa 2),(17,aa 2),(1000000,.ptr 0 0),(1000001,.ptr 1 0)],40,[.cells [aa a0,aa a1],.cells [.buf 4 2 2 none],.cells [aa lo,aa hi],.gone,.cells [aa (rM a0 a1 lo),aa (rL a0 a1 lo),aa (rM a0 a1 hi),aa (rL a0 a1 hi)]],[]⟩)) 2 zH (.inl ⟨rfl,rfl⟩) (by rintro m st (⟨_,rfl⟩ | ⟨_,rfl⟩ | ⟨_,rfl⟩)<;>rfl) ?_)
 rintro m st (⟨rfl,rfl⟩ | ⟨rfl,rfl⟩ | ⟨rfl,rfl⟩)
 ·refine(xS)<|(zB)<|(zV)<|(zs) ?_;refine nQ [0,1,0,7,0,16,0,127,255,511] ?_;refine(zD) ?_;refine SD.k (by rfl) rfl rfl (by rfl) rfl rfl zc (iw a0 lo) (zw) rfl ?_;refine(zD) ?_;refine SD.k (by rfl) rfl rfl (by rfl) rfl rfl zc (iw a1 lo) (zw) rfl ?_;refine(zD)<|(zM)<|(az (n2 @iJ @fE))<|(zV) ?_;exact⟨1,_,by omega,(bK (n2 @rM.eq_1 @rL.eq_1)),.inr (.inl ⟨rfl,rfl⟩)⟩
 ·refine(xS)<|(zB)<|(zV)<|(zs) ?_;refine nQ [0,1,0,7,0,16,0,127,255,511] ?_;refine(zD) ?_;refine SD.k (by rfl) rfl rfl (by rfl) rfl rfl zc (iw a0 hi) (zw) rfl ?_;refine(zD) ?_;refine SD.k (by rfl) rfl rfl (by rfl) rfl rfl zc (iw a1 hi) (zw) rfl ?_;refine(zD)<|(zM)<|(az (n2 @iJ @fE))<|(zV) ?_;exact⟨0,_,by omega,(bK (n2 @rM.eq_1 @rL.eq_1)),.inr (.inr ⟨rfl,rfl⟩)⟩
 ·refine(I4) ?_;refine aq.fg (st':=⟨[(1000000,.ptr 0 0),(1000001,.ptr 1 0)],40,[.cells [aa a0,aa a1],.cells [.buf 4 2 2 none],.gone,.gone,.cells [aa (rM a0 a1 lo),aa (rL a0 a1 lo),aa (rM a0 a1 hi),aa (rL a0 a1 hi)]],[]⟩) zH ?_;refine aq.exit ?_;simp only[fG,dH,cB,bX,if_true];exact zP []
def H6(a0 a1 lo hi:Int)(h:¬lo<=hi):SC prog 276 [aa lo,aa hi,.ptr 0 0,.ptr 1 0] [.cells [aa a0,aa a1],.cells [cI]] []
 (λr S'=>r=.bC []/\S'=[.cells [aa a0,aa a1],.cells [cI]]):=by
 refine UZ 40 fd ?_;refine(az (show decide (lo<=hi)=false by simpa using h)) ?_
 (repeat refine aq.seq ?_)
 refine aq.no rfl ?_;refine aq.skip ?_
 (try simp only[fG,dH,cB,bX])
 exact zP []
def rq(a0 a1 lo hi:Int)(n:Nat)(cs:List SV)(h:¬lo<=hi):SC prog 276 [aa lo,aa hi,.ptr 0 0,.ptr 1 0] [.cells [aa a0,aa a1],.cells [.buf 2 n 2 none],.cells cs] []
 (λr S'=>r=.bC []/\S'=[.cells [aa a0,aa a1],.cells [.buf 2 n 2 none],.cells cs]):=by
 refine U0 40 fd ?_;refine(az (show decide (lo<=hi)=false by simpa using h)) ?_
 (repeat refine aq.seq ?_)
 refine aq.no rfl ?_;refine aq.skip ?_
 (try simp only[fG,dH,cB,bX])
 exact zP []
def cY(p:Int×Int):List SV:=[aa p.1,aa p.2]
def rO(p:Int×Int):(cY p).length=2:=rfl
def mI(p:Int×Int):cm (cY p)=true:=rfl
def xC(a0 a1 lo hi:Int)(rows:List (Int×Int))(hlen:rows.length<=1000)(h:lo<=hi):SC prog 276 [aa lo,aa hi,.ptr 0 0,.ptr 1 0] [.cells [aa a0,aa a1],.cells [.buf 2 rows.length 2 none],.cells (rows.flatMap cY)] [2]
 (λr S'=>r=.bC []/\S'=[.cells [aa a0,aa a1],.cells [.buf 2 (rows.length+1+1) 2 none],.cells ((rows++[(rM a0 a1 lo,rL a0 a1 lo)]++[(rM a0 a1 hi,rL a0 a1 hi)]).flatMap cY)]):=by
 refine U0 40 fd ?_;have step:∀(l:List (Int×Int)) (x y:Int),((l.flatMap cY).take (l.length*2)++[aa x,aa y]).map (aM 2)=(l++[(x,y)]).flatMap cY:=λl x y=>en rO mI 2 l (x,y);have hcl:∀l:List (Int×Int),(l.flatMap cY).length=l.length*2:=aL rO;have hkc:∀(o:Nat) (l:List (Int×Int)),(l.flatMap cY).map (aM o)=l.flatMap cY:=λo l=>aY mI o l;refine(az (show decide (lo<=hi)=true by simpa using h)) ?_
 (repeat refine aq.seq ?_)
 refine aq.yes rfl ?_;refine(az hkc) ?_
 (repeat refine aq.seq ?_)
 refine aq.block (aq.loop (λm st=>∃q:List (Int×Int),
  (m=2/\q=rows/\st=⟨[(2,.ptr 0 0),(3,.ptr 1 0),(15,.buf 3 2 1 (some 2)),(16,aa 2),(17,aa 0),(1000000,.ptr 0 0),(1000001,.ptr 1 0)],40,[.cells [aa a0,aa a1],.cells [.buf 2 q.length 2 none],.cells (q.flatMap cY),.cells [aa lo,aa hi]],[]⟩)\/
  (m=1/\q=rows++[(rM a0 a1 lo,rL a0 a1 lo)]/\st=⟨[(2,.ptr 0 0),(3,.ptr 1 0),(15,.buf 3 2 1 (some 2)),(16,aa 2),(17,aa 1),(1000000,.ptr 0 0),(1000001,.ptr 1 0)],40,[.cells [aa a0,aa a1],.cells [.buf 2 q.length 2 none],.cells (q.flatMap cY),.cells [aa lo,aa hi]],[]⟩)\/
  (m=0/\q=rows++[(rM a0 a1 lo,rL a0 a1 lo)]++[(rM a0 a1 hi,rL a0 a1 hi)]/\st=⟨[(2,.ptr 0 0),(3,.ptr 1 0),(15,.buf 3 2 1 (some 2)),(16,aa 2),(17,aa 2),(1000000,.ptr 0 0),(1000001,.ptr 1 0)],40,[.cells [aa a0,aa a1],.cells [.buf 2 q.length 2 none],.cells (q.flatMap cY),.cells [aa lo,aa hi]],[]⟩)) 2 zH ⟨rows,.inl ⟨rfl,rfl,rfl⟩⟩ (by rintro m st ⟨q,⟨_,_,rfl⟩ | ⟨_,_,rfl⟩ | ⟨_,_,rfl⟩⟩<;>rfl) ?_)
 rintro m st ⟨q,⟨rfl,hq,rfl⟩ | ⟨rfl,hq,rfl⟩ | ⟨rfl,hq,rfl⟩⟩
 ·have hql:q.length<=1000000:=by rw[hq];omega
  refine(xS)<|(zB)<|(zV)<|(zs) ?_;refine nQ [0,1,0,7,0,16,0,127,255,511] ?_;refine(zD) ?_;refine SD.k (by rfl) rfl rfl (by rfl) rfl rfl zc (iw a0 lo) (zw) rfl ?_;refine(zD) ?_;refine SD.k (by rfl) rfl rfl (by rfl) rfl rfl zc (iw a1 lo) (zw) rfl ?_;refine(zD)<|(zM)<|(az (n7 @iJ @fE hkc hcl step hql @ad))<|(zV) ?_;refine⟨1,_,by omega,(bK (n6 @rM.eq_1 @rL.eq_1 hq @length_append.{0} @length_cons.{0} @length_nil.{0})),q++[(rM a0 a1 lo,rL a0 a1 lo)],.inr (.inl ⟨rfl,by rw[hq],rfl⟩)⟩
 ·have hql:q.length<=1000000:=by rw[hq,length_append];simp only[length_cons,length_nil];omega
  refine(xS)<|(zB)<|(zV)<|(zs) ?_;refine nQ [0,1,0,7,0,16,0,127,255,511] ?_;refine(zD) ?_;refine SD.k (by rfl) rfl rfl (by rfl) rfl rfl zc (iw a0 hi) (zw) rfl ?_;refine(zD) ?_;refine SD.k (by rfl) rfl rfl (by rfl) rfl rfl zc (iw a1 hi) (zw) rfl ?_;refine(zD)<|(zM)<|(az (n7 @iJ @fE hkc hcl step hql @ad))<|(zV) ?_;refine⟨0,_,by omega,(bK (n6 @rM.eq_1 @rL.eq_1 hq @length_append.{0} @length_cons.{0} @length_nil.{0})),q++[(rM a0 a1 hi,rL a0 a1 hi)],.inr (.inr ⟨rfl,by rw[hq],rfl⟩)⟩
 ·refine(I4) ?_;rw[show q.length=rows.length+1+1 by rw[hq];simp];refine aq.fg (st':=⟨[(1000000,.ptr 0 0),(1000001,.ptr 1 0)],40,[.cells [aa a0,aa a1],.cells [.buf 2 (rows.length+1+1) 2 none],.cells (q.flatMap cY)],[]⟩) zH ?_;refine aq.exit ?_;simp only[fG,dH,cB,bX,if_true];exact zP [] (hq:=by (try simp only[df,aX]);first | done | (rw[hq];first | exact⟨rfl,rfl⟩ | exact⟨trivial,rfl⟩ | exact⟨rfl,trivial⟩ | exact⟨trivial,trivial⟩))
def c7(a0 a1 lo hi:Int):List (Int×Int):=if lo<=hi then [(rM a0 a1 lo,rL a0 a1 lo)]++[(rM a0 a1 hi,rL a0 a1 hi)] else []
def mn(a0 a1 b0 b1:Int):List (Int×Int):=(if b0<=0/\0<=b1 then [(0,0)] else [])++c7 a0 a1 (ee b0 1) b1++c7 a0 a1 b0 (eX b1 (-1))
def jf(x y:Int×Int):Int×Int:=mw x.1 x.2 y.1 y.2
def jQ(a0 a1 b0 b1:Int):Int×Int:=(mn a0 a1 b0 b1).foldl jf ((mn a0 a1 b0 b1).headD (0,0))
def vT{α:Type}{f:α->α->α}{l:List α}{i:Nat}{x a:α}(h:l[i]?=some x):(l.take (i+1)).foldl f a=f ((l.take i).foldl f a) x:=by
 rw[d8,h,Option.toList_some,d7];rfl
def H7(a0 a1 b0 b1:Int)(hb:b0<=b1):PC prog 271 [lF a0 a1,lF b0 b1] (·=oU (jQ a0 a1 b0 b1)):=by
 refine pB 51 Tryz.func271 ?_;have hkc:∀(o:Nat) (l:List (Int×Int)),(l.flatMap cY).map (aM o)=l.flatMap cY:=λo l=>aY mI o l;have hrc:∀(g:Nat->Nat) (l:List (Int×Int)),lr g (l.flatMap cY)=l.flatMap cY:=λg l=>bg (aA mI l);have hbc:∀(B:Nat) (l:List (Int×Int)),gC B (l.flatMap cY)=true:=λB l=>bF (aA mI l);have hcl:∀l:List (Int×Int),(l.flatMap cY).length=l.length*2:=aL rO
 refine(az @lF.eq_1)<|(zV) ?_
 by_cases hz:b0<=0/\0<=b1
 ·refine(az (n2 (show decide (b0<=0)=true by simpa using hz.1) (show decide (0<=b1)=true by simpa using hz.2)))<|(cM)<|(zV) ?_
  have hm1:ee b0 1=1:=by unfold ee;split<;>omega
  have d1:mn a0 a1 b0 b1=([(0,0)]++c7 a0 a1 1 b1)++c7 a0 a1 b0 (eX b1 (-1)):=by rw[mn,t8 hz,hm1]
  (repeat refine aq.seq ?_)
  refine aq.mono (Q:=λe st=>e=.normal/\Fg st ⟨[(3,.ptr 1 0),(4,.ptr 2 0),(5,.ptr 3 0),(6,.fn 276 [] [.ptr 0 0,.ptr 3 0])],51,[.cells [aa a0,aa a1],.cells [aa b0,aa b1],.cells [aa 0,aa 0],.cells [.buf 5 ([(0,0)]++c7 a0 a1 1 b1).length 2 none],.gone,.cells (([(0,0)]++c7 a0 a1 1 b1).flatMap cY)],[]⟩) ?_ ?_
  ·by_cases h1:(1:Int)<=b1
   ·refine(iC (n2 @fE hm1)) ?_;have hd:=xC a0 a1 1 b1 [(0,0)] (by decide) h1;rw[show[((0:Int),(0:Int))].flatMap cY=[aa 0,aa 0] from rfl,show[((0:Int),(0:Int))].length=1 from rfl] at hd;refine zS [0,3,5] (n3 hrc hbc hkc) hd ?_;refine(zR) ?_;refine⟨rfl,(Fg.less (by (simp only[bI,bj,dI,↓reduceIte,af,c7,t8 h1,length_append,length_cons,length_nil,cd])<;>(repeat' apply b8)<;>first | rfl | trivial) (by (simp only[bI,bj,or_true,true_or,c7,t8 h1,length_append,length_cons,length_nil,cd])<;>(repeat' apply b8)<;>first | exact .inr rfl | exact .inl rfl | trivial))⟩
   ·refine(iC (n2 @fE hm1)) ?_;have hd:=rq a0 a1 1 b1 1 [aa 0,aa 0] h1;refine zS [0,3,5] (n3 hrc hbc hkc) hd ?_;refine(zR) ?_;refine⟨rfl,(Fg.less (by (simp only[bI,bj,dI,↓reduceIte,af,c7,ul h1,append_nil,length_cons,length_nil,flatMap_cons,flatMap_nil,cY])<;>(repeat' apply b8)<;>first | rfl | trivial) (by (simp only[bI,bj,or_true,true_or,c7,ul h1,append_nil,length_cons,length_nil,flatMap_cons,flatMap_nil,cY])<;>(repeat' apply b8)<;>first | exact .inr rfl | exact .inl rfl | trivial))⟩
  rintro e st ⟨rfl,hfg⟩;refine aq.fg hfg ?_;clear hfg
  (try change aq _ _ _ _ _)
  have hq1:([(0,0)]++c7 a0 a1 1 b1).length<=1000:=by
   unfold c7;split<;>simp
  (repeat refine aq.seq ?_)
  refine aq.mono (Q:=λe st=>e=.normal/\Fg st ⟨[(3,.ptr 1 0),(4,.ptr 2 0),(5,.ptr 3 0),(6,.fn 276 [] [.ptr 0 0,.ptr 3 0])],51,[.cells [aa a0,aa a1],.cells [aa b0,aa b1],.cells [aa 0,aa 0],.cells [.buf 5 (([(0,0)]++c7 a0 a1 1 b1)++c7 a0 a1 b0 (eX b1 (-1))).length 2 none],.gone,.cells ((([(0,0)]++c7 a0 a1 1 b1)++c7 a0 a1 b0 (eX b1 (-1))).flatMap cY)],[]⟩) ?_ ?_
  ·generalize ([(0,0)]++c7 a0 a1 1 b1)=q1 at hq1;by_cases h2:b0<=eX b1 (-1)
   ·refine(iC @iJ) ?_;have hd:=xC a0 a1 b0 (eX b1 (-1)) q1 hq1 h2;refine zS [0,3,5] (n3 hrc hbc hkc) hd ?_;refine(zR) ?_;refine⟨rfl,(Fg.less (by (simp only[bI,bj,dI,↓reduceIte,af,c7,t8 h2,length_append,length_cons,length_nil,cd])<;>(repeat' apply b8)<;>first | rfl | trivial) (by (simp only[bI,bj,or_true,true_or,c7,t8 h2,length_append,length_cons,length_nil,cd])<;>(repeat' apply b8)<;>first | exact .inr rfl | exact .inl rfl | trivial))⟩
   ·refine(iC @iJ) ?_;have hd:=rq a0 a1 b0 (eX b1 (-1)) q1.length (q1.flatMap cY) h2;refine zS [0,3,5] (n3 hrc hbc hkc) hd ?_;refine(zR) ?_;refine⟨rfl,(Fg.less (by (simp only[bI,bj,dI,↓reduceIte,af,c7,ul h2,append_nil])<;>(repeat' apply b8)<;>first | rfl | trivial) (by (simp only[bI,bj,or_true,true_or,c7,ul h2,append_nil])<;>(repeat' apply b8)<;>first | exact .inr rfl | exact .inl rfl | trivial))⟩
  rintro e st ⟨rfl,hfg⟩;refine aq.fg hfg ?_;clear hfg
  (try change aq _ _ _ _ _)
  obtain⟨rows,hrows⟩:∃rows,rows=(([(0,0)]++c7 a0 a1 1 b1)++c7 a0 a1 b0 (eX b1 (-1))):=⟨_,rfl⟩
  have hne:rows≠[]:=by rw[hrows];simp
  obtain⟨x0,hr0⟩:∃x0,rows[0]?=some x0:=by
   cases h:rows with
   | nil=>exact t7 h hne
   | cons x r=>exact⟨x,rfl⟩
  have h0r:0<rows.length:=bf hr0
  have hlen:rows.length<=1000000:=by rw[hrows];(unfold c7;split<;>split<;>simp)
  have hD:jQ a0 a1 b0 b1=rows.foldl jf x0:=by rw[jQ,d1,<-hrows,show rows.headD (0,0)=x0 by cases rows with | nil=>exact t7 rfl hne | cons x r=>simpa using hr0]
  have ht2:(rows.flatMap cY).take 2=[aa x0.1,aa x0.2]:=by
   have:=aH (e:=2) (enc:=cY) (λ_=>rfl) hr0
   rwa [cn,dl] at this
  rw[<-hrows];clear hrows
  refine(az (n7 (show de (.int .i64 0)=some 0 from rfl) @cn h0r hkc hcl ht2 (show 2<=rows.length*2 by omega)))<|(zV)<|(zs) ?_;refine zL rows (λk=>True) (λk=>[(4,.ptr 2 0),(7,.ptr 6 0),(40,.buf 5 rows.length 2 none),(41,aa rows.length),(42,aa k)]) (λk=>[.gone,.gone,.cells [aa 0,aa 0],.gone,.gone,.cells (rows.flatMap cY),.cells [aa ((rows.take k).foldl jf x0).1,aa ((rows.take k).foldl jf x0).2]]) (bK (n3 @take_zero.{0} @foldl_nil.{0,0} hkc)) zp ?_;intro k hk hall;refine zT rows k ?_ ?_;rintro rfl;rotate_left;intro x hx hlt;rotate_left
  ·refine(eN) ?_;rw[bs]
   exact(zV)<|zo [.cell 4 54] (hq:=by rw[hD,oU,lF])
  have hst:=vT (f:=jf) (a:=x0) hx;obtain⟨p,q,hpq⟩:∃p q,(rows.take k).foldl jf x0=(p,q):=⟨_,_,rfl⟩;rw[hpq] at hst ⊢
  refine(gh)<|(az (n6 hlt (aH (e:=2) (enc:=cY) (λ_=>rfl) hx) @cY.eq_1 hcl (show k*2+2<=rows.length*2 by omega) hkc))<|(zC)<|(zK (oy p q x.1 x.2))<|(cK (n2 @oU.eq_1 @lF.eq_1))<|(az (zi hlt hlen)) ?_;refine zX hlt (bK (n3 hst @jf.eq_1 hkc)) trivial
 by_cases hp:1<=b0
 ·refine(az (show decide (b0<=0)=false by simp;omega))<|(iY) ?_
  have hm1:ee b0 1=b0:=by unfold ee;split<;>omega
  have hm2:eX b1 (-1) = -1:=by unfold eX;split<;>omega
  have d1:mn a0 a1 b0 b1=[(rM a0 a1 b0,rL a0 a1 b0),(rM a0 a1 b1,rL a0 a1 b1)]:=by rw[mn,ul hz,hm1,hm2,c7,t8 hb,c7,ul (by omega)];rfl
  refine(iC (n2 @fE hm1)) ?_;have hd:=xD a0 a1 b0 b1 hb
  refine zS [0,3] (n3 hrc hbc hkc) hd ?_;refine(zR)<|(iC (n2 @iJ hm2)) ?_
  have hd2:=rq a0 a1 b0 (-1) 2 [aa (rM a0 a1 b0),aa (rL a0 a1 b0),aa (rM a0 a1 b1),aa (rL a0 a1 b1)] (by omega);refine zS [0,3,6] (n3 hrc hbc hkc) hd2 ?_;refine(zR) ?_;obtain⟨rows,hrows⟩:∃rows,rows=[(rM a0 a1 b0,rL a0 a1 b0),(rM a0 a1 b1,rL a0 a1 b1)]:=⟨_,rfl⟩
  have hne:rows≠[]:=by rw[hrows];simp
  obtain⟨x0,hr0⟩:∃x0,rows[0]?=some x0:=by
   cases h:rows with
   | nil=>exact t7 h hne
   | cons x r=>exact⟨x,rfl⟩
  have h0r:0<rows.length:=bf hr0
  have hlen:rows.length<=1000000:=by rw[hrows];simp
  have hD:jQ a0 a1 b0 b1=rows.foldl jf x0:=by rw[jQ,d1,<-hrows,show rows.headD (0,0)=x0 by cases rows with | nil=>exact t7 rfl hne | cons x r=>simpa using hr0]
  have ht2:(rows.flatMap cY).take 2=[aa x0.1,aa x0.2]:=by
   have:=aH (e:=2) (enc:=cY) (λ_=>rfl) hr0
   rwa [cn,dl] at this
  rw[show([aa (rM a0 a1 b0),aa (rL a0 a1 b0),aa (rM a0 a1 b1),aa (rL a0 a1 b1)]:List SV)=rows.flatMap cY by rw[hrows];rfl,show(SV.buf 6 2 2 none)=.buf 6 rows.length 2 none by rw[hrows];rfl];clear hrows
  refine(az (n7 (show de (.int .i64 0)=some 0 from rfl) @cn h0r hkc hcl ht2 (show 2<=rows.length*2 by omega)))<|(zV)<|(zs) ?_;refine zL rows (λk=>True) (λk=>[(4,.ptr 2 0),(7,.ptr 7 0),(40,.buf 6 rows.length 2 none),(41,aa rows.length),(42,aa k)]) (λk=>[.gone,.gone,.cells [aa 0,aa 0],.gone,.gone,.gone,.cells (rows.flatMap cY),.cells [aa ((rows.take k).foldl jf x0).1,aa ((rows.take k).foldl jf x0).2]]) (bK (n3 @take_zero.{0} @foldl_nil.{0,0} hkc)) zp ?_;intro k hk hall;refine zT rows k ?_ ?_;rintro rfl;rotate_left;intro x hx hlt;rotate_left
  ·refine(eN) ?_;rw[bs]
   exact(zV)<|zo [.cell 4 54] (hq:=by rw[hD,oU,lF])
  have hst:=vT (f:=jf) (a:=x0) hx;obtain⟨p,q,hpq⟩:∃p q,(rows.take k).foldl jf x0=(p,q):=⟨_,_,rfl⟩;rw[hpq] at hst ⊢
  refine(gh)<|(az (n6 hlt (aH (e:=2) (enc:=cY) (λ_=>rfl) hx) @cY.eq_1 hcl (show k*2+2<=rows.length*2 by omega) hkc))<|(zC)<|(zK (oy p q x.1 x.2))<|(cK (n2 @oU.eq_1 @lF.eq_1))<|(az (zi hlt hlen)) ?_;refine zX hlt (bK (n3 hst @jf.eq_1 hkc)) trivial
 ·have hn:b1 <= -1:=by omega
  by_cases hq0:b0<=0;rotate_left
  ·omega
  refine(az (n2 (show decide (b0<=0)=true by simpa using hq0) (show decide (0<=b1)=false by simp;omega)))<|(iY) ?_
  have hm1:ee b0 1=1:=by unfold ee;split<;>omega
  have hm2:eX b1 (-1)=b1:=by unfold eX;split<;>omega
  have d1:mn a0 a1 b0 b1=[(rM a0 a1 b0,rL a0 a1 b0),(rM a0 a1 b1,rL a0 a1 b1)]:=by rw[mn,ul hz,hm1,hm2,c7,ul (by omega),c7,t8 hb];rfl
  refine(iC (n2 @fE hm1)) ?_;have hd:=H6 a0 a1 1 b1 (by omega)
  refine zS [0,3] (n3 hrc hbc hkc) hd ?_;refine(zR)<|(iC (n2 @iJ hm2)) ?_
  have hd2:=xD a0 a1 b0 b1 hb;refine zS [0,3] (n3 hrc hbc hkc) hd2 ?_;refine(zR) ?_;obtain⟨rows,hrows⟩:∃rows,rows=[(rM a0 a1 b0,rL a0 a1 b0),(rM a0 a1 b1,rL a0 a1 b1)]:=⟨_,rfl⟩
  have hne:rows≠[]:=by rw[hrows];simp
  obtain⟨x0,hr0⟩:∃x0,rows[0]?=some x0:=by
   cases h:rows with
   | nil=>exact t7 h hne
   | cons x r=>exact⟨x,rfl⟩
  have h0r:0<rows.length:=bf hr0
  have hlen:rows.length<=1000000:=by rw[hrows];simp
  have hD:jQ a0 a1 b0 b1=rows.foldl jf x0:=by rw[jQ,d1,<-hrows,show rows.headD (0,0)=x0 by cases rows with | nil=>exact t7 rfl hne | cons x r=>simpa using hr0]
  have ht2:(rows.flatMap cY).take 2=[aa x0.1,aa x0.2]:=by
   have:=aH (e:=2) (enc:=cY) (λ_=>rfl) hr0
   rwa [cn,dl] at this
  rw[show([aa (rM a0 a1 b0),aa (rL a0 a1 b0),aa (rM a0 a1 b1),aa (rL a0 a1 b1)]:List SV)=rows.flatMap cY by rw[hrows];rfl,show(SV.buf 6 2 2 none)=.buf 6 rows.length 2 none by rw[hrows];rfl];clear hrows
  refine(az (n7 (show de (.int .i64 0)=some 0 from rfl) @cn h0r hkc hcl ht2 (show 2<=rows.length*2 by omega)))<|(zV)<|(zs) ?_;refine zL rows (λk=>True) (λk=>[(4,.ptr 2 0),(7,.ptr 7 0),(40,.buf 6 rows.length 2 none),(41,aa rows.length),(42,aa k)]) (λk=>[.gone,.gone,.cells [aa 0,aa 0],.gone,.gone,.gone,.cells (rows.flatMap cY),.cells [aa ((rows.take k).foldl jf x0).1,aa ((rows.take k).foldl jf x0).2]]) (bK (n3 @take_zero.{0} @foldl_nil.{0,0} hkc)) zp ?_;intro k hk hall;refine zT rows k ?_ ?_;rintro rfl;rotate_left;intro x hx hlt;rotate_left
  ·refine(eN) ?_;rw[bs]
   exact(zV)<|zo [.cell 4 54] (hq:=by rw[hD,oU,lF])
  have hst:=vT (f:=jf) (a:=x0) hx;obtain⟨p,q,hpq⟩:∃p q,(rows.take k).foldl jf x0=(p,q):=⟨_,_,rfl⟩;rw[hpq] at hst ⊢
  refine(gh)<|(az (n6 hlt (aH (e:=2) (enc:=cY) (λ_=>rfl) hx) @cY.eq_1 hcl (show k*2+2<=rows.length*2 by omega) hkc))<|(zC)<|(zK (oy p q x.1 x.2))<|(cK (n2 @oU.eq_1 @lF.eq_1))<|(az (zi hlt hlen)) ?_;refine zX hlt (bK (n3 hst @jf.eq_1 hkc)) trivial
structure jc where
 u1:Int
 u2:Int
 u3:Int
 u4:Int
 u5:Int
 u6:Int
def ea(u:jc):List SV:=[aa u.u1,aa u.u2,aa u.u3,aa u.u4,aa u.u5,aa u.u6]
def od(u:jc)(op:Int):Int×Int:=if op=2 then (u.u1,u.u2) else if op=3 then (u.u3,u.u4) else (u.u5,u.u6)
def applyN(op:Int)(a b:Int×Int):Int×Int:=
 if op=5 then fv kh a.1 a.2 b.1 b.2 else if op=6 then fv Eu a.1 a.2 b.1 b.2 else if op=7 then fv A9 a.1 a.2 b.1 b.2
 else if op=9 then (eX a.1 b.1,eX a.2 b.2) else if op=10 then (ee a.1 b.1,ee a.2 b.2) else jQ a.1 a.2 b.1 b.2
def nV(a b c:Int×Int):Int×Int:=if uD a.1 a.2 0=2 then b else if uD a.1 a.2 0=0 then c else mw b.1 b.2 c.1 c.2
def Ft(u:jc)(n:Int):PC prog 268 [.ag (ea u),aa n] (·=oU (n,n)):=by
 refine pB 8 Tryz.func268 ?_;exact(az @ea.eq_1)<|(zV)<|zo [.cell 4 54]
def Fl(u:jc)(op:Int):PC prog 267 [.ag (ea u),aa op] (·=oU (od u op)):=by
 refine pB 19 Tryz.func267 ?_;refine(az @ea.eq_1)<|(zV)<|(zB) ?_
 cases h1:decide (op=2);rotate_left
 ·exact(az h1)<|(cM)<|zo [.cell 4 54] (hq:=by rw[od,t8 (ww h1)];rfl)
 refine(az h1)<|(zN) ?_
 cases h2:decide (op=3);rotate_left
 ·exact(az h2)<|(cM)<|zo [.cell 4 54] (hq:=by rw[od,ul (wt h1),t8 (ww h2)];rfl)
 exact(az h2)<|(iY)<|zo [.cell 4 54] (hq:=by rw[od,ul (wt h1),ul (wt h2)];rfl)
def E1(u:jc)(a b c:Int×Int):PC prog 266 [.ag (ea u),oU a,oU b,oU c] (·=oU (nV a b c)):=by
 refine pB 20 Tryz.func266 ?_;refine(az (n3 @ea.eq_1 @oU.eq_1 @lF.eq_1))<|(zC)<|(zK (Ie a.1 a.2 0))<|(zR)<|(zB) ?_
 cases h1:decide (uD a.1 a.2 0=2);rotate_left
 ·exact(az h1)<|(cM)<|zo [.cell 8 54] (hq:=by rw[nV,t8 (ww h1)];rfl)
 refine(az h1)<|(zN) ?_
 cases h2:decide (uD a.1 a.2 0=0);rotate_left
 ·exact(az h2)<|(cM)<|zo [.cell 8 54] (hq:=by rw[nV,ul (wt h1),t8 (ww h2)];rfl)
 exact(az h2)<|(Sx)<|(zK (oy b.1 b.2 c.1 c.2))<|(cK (n2 @oU.eq_1 @lF.eq_1))<|zo [.cell 8 54] (hq:=by rw[nV,ul (wt h1),ul (wt h2)];rfl)
def HY(u:jc)(op:Int)(a b:Int×Int)(hb:b.1<=b.2):PC prog 265 [.ag (ea u),aa op,oU a,oU b] (·=oU (applyN op a b)):=by
 refine pB 54 Tryz.func265 ?_;refine(az (n3 @ea.eq_1 @oU.eq_1 @lF.eq_1))<|(zV)<|(zB) ?_
 cases h1:decide (op=5);rotate_left
 ·exact(az h1)<|(zY)<|(zC)<|(zK (ql a.1 a.2 b.1 b.2))<|(cK (n2 @oU.eq_1 @lF.eq_1))<|zo [.cell 8 54] (hq:=by rw[applyN,t8 (ww h1)];rfl)
 have g1:=wt h1
 refine(az h1)<|(zN) ?_
 cases h2:decide (op=6);rotate_left
 ·exact(az h2)<|(zY)<|(zC)<|(zK (KB a.1 a.2 b.1 b.2))<|(cK (n2 @oU.eq_1 @lF.eq_1))<|zo [.cell 8 54] (hq:=by rw[applyN,ul g1,t8 (ww h2)];rfl)
 have g2:=wt h2
 refine(az h2)<|(zN) ?_
 cases h3:decide (op=7);rotate_left
 ·exact(az h3)<|(zY)<|(zC)<|(zK (KA a.1 a.2 b.1 b.2))<|(cK (n2 @oU.eq_1 @lF.eq_1))<|zo [.cell 8 54] (hq:=by rw[applyN,ul g1,ul g2,t8 (ww h3)];rfl)
 have g3:=wt h3
 refine(az h3)<|(zN) ?_
 cases h4:decide (op=9);rotate_left
 ·exact(az h4)<|(zY)<|(az @iJ)<|zo [.cell 8 54] (hq:=by rw[applyN,ul g1,ul g2,ul g3,t8 (ww h4)];rfl)
 have g4:=wt h4
 refine(az h4)<|(zN) ?_
 cases h5:decide (op=10);rotate_left
 ·exact(az h5)<|(zY)<|(az @fE)<|zo [.cell 8 54] (hq:=by rw[applyN,ul g1,ul g2,ul g3,ul g4,t8 (ww h5)];rfl)
 have g5:=wt h5
 exact(az h5)<|(Sx)<|(zK (H7 a.1 a.2 b.1 b.2 hb))<|(cK (n2 @oU.eq_1 @lF.eq_1))<|zo [.cell 8 54] (hq:=by rw[applyN,ul g1,ul g2,ul g3,ul g4,ul g5];rfl)
inductive bu where
 | mk (op n:Int) (kids:List bu)
def bu.op:bu->Int
 | .mk op _ _=>op
mutual
def aD:bu->List SV
 | .mk op n kids=>[aa op,aa n,.sl kids.length 3 (qM kids)]
def qM:List bu->List SV
 | []=>[]
 | f::fs=>aD f++qM fs
end
def wY:∀l:List bu,qM l=l.flatMap aD
 | []=>by rw[qM];rfl
 | f::l=>by rw[qM,wY l,flatMap_cons]
def dz(op n:Int)(kids:List bu):aD (.mk op n kids)=[aa op,aa n,.sl kids.length 3 (kids.flatMap aD)]:=by rw[aD,wY]
def eL(f:bu):(aD f).length=3:=by
 obtain⟨op,n,kids⟩:=f;rw[dz];rfl
def aE(f:bu):cm (aD f)=true:=by
 obtain⟨op,n,kids⟩:=f;rw[dz];rfl
inductive gJ:bu->Prop
 | mk {op n:Int} {kids:List bu}:kids.length<=1000000->(∀k∈kids,gJ k)->gJ (.mk op n kids)
mutual
def fU:bu->Int->Int
 | .mk _ _ kids,most=>ik kids most 1
def ik:List bu->Int->Int->Int
 | [],_,n=>n
 | k::ks,most,n=>if most<n then n else ik ks most (Ja n (fU k (A4 most n)))
end
def xK:∀(d:Nat) (f:bu),SizeOf.sizeOf f<d->gJ f->∀most:Int,PC Tryz.prog 75 [.ag (aD f),aa most] (·=aa (fU f most))
 | 0,f,hd,_,_=>t7 hd (Nat.not_lt_zero _)
 | d+1,.mk op n kids,hd,hf,most=>by
  cases hf with
  | mk hlen hks=>
  have hkd:∀k∈kids,SizeOf.sizeOf k<d:=λk hk=>by
   have h1:=List.sizeOf_lt_of_mem hk
   have h2:SizeOf.sizeOf (bu.mk op n kids)=1+SizeOf.sizeOf op+SizeOf.sizeOf n+SizeOf.sizeOf kids:=by simp
   omega
  rw[dz,fU]
  refine pB 27 Tryz.func75 ?_;refine(mO)<|(zV)<|(zs) ?_;refine Oi kids (λk (acc:Int)=>ik kids most 1=ik (kids.drop k) most acc) (λk acc=>[(1,aa most),(5,aa acc),(9,ah 3 kids aD),(10,aa kids.length),(11,aa k)]) (λk acc=>[]) (1) zH (by rfl) ?_;intro k acc hk hall;refine zT kids k ?_ ?_;rintro rfl;rotate_left;intro x hx hlt;rotate_left
  ·exact(eN)<|(zV)<|zo [.tmp 4] (hq:=by rw[hall,List.drop_length,ik])
  rw[fC hx,ik] at hall;have hxm:=List.mem_of_getElem? hx;have ih:=xK d x (hkd x hxm) (hks x hxm);have hxl:((kids.flatMap aD).drop (k*3)).take 3=aD x:=aH (e:=3) (enc:=aD) eL hx;obtain⟨op',n',kids'⟩:=x;simp only[dz] at hxl ih
  refine(gh)<|(az (n2 hlt hxl)) ?_
  cases h1:decide (most<acc);rotate_left
  ·refine(az h1)<|(zY) ?_;refine aq.exit ?_;exact(zV)<|zo [.tmp 4] (hq:=by rw[hall,t8 (ww h1)])
  refine(az h1)<|(zN) ?_
  rw[ul (wt h1)] at hall
  refine(iC @qF)<|(zK (ih (A4 most acc)))<|(cK @yZ)<|(az (zi hlt hlen)) ?_;refine I5 hlt (Ja acc (fU (.mk op' n' kids') (A4 most acc))) zH hall
def KO(f:bu)(hf:gJ f)(most:Int):PC prog 75 [.ag (aD f),aa most] (·=aa (fU f most)):=xK _ f (dk _) hf most
def rG(op:Int):Nat:=if op=11 then 3 else if 5<=op then 2 else 0
mutual
def gr:bu->Bool
 | .mk op n kids=>(decide (1<=op)&&decide (op<=11))&&(decide (kids.length=rG op)&&(!(decide (n<0))&&(!(decide (9999999<n))&&!(decide (0<n)&&!(decide (op=1))))))&&uK kids
def uK:List bu->Bool
 | []=>true
 | k::ks=>gr k&&uK ks
end
def tj:∀l:List bu,uK l=l.all gr
 | []=>by rw[uK];rfl
 | a::l=>by rw[uK,tj l,fu]
def xL:∀(d:Nat) (f:bu),SizeOf.sizeOf f<d->gJ f->PC Tryz.prog 76 [.ag (aD f)] (·=au (gr f))
 | 0,f,hd,_=>t7 hd (Nat.not_lt_zero _)
 | d+1,.mk op n kids,hd,hf=>by
  cases hf with
  | mk hlen hks=>
  have hkd:∀k∈kids,SizeOf.sizeOf k<d:=λk hk=>by
   have h1:=List.sizeOf_lt_of_mem hk
   have h2:SizeOf.sizeOf (bu.mk op n kids)=1+SizeOf.sizeOf op+SizeOf.sizeOf n+SizeOf.sizeOf kids:=by simp
   omega
  rw[dz,gr,tj];refine pB 59 Tryz.func76 ?_;refine(mO) ?_
  (repeat refine aq.seq ?_)
  cases h1:decide (op<1);rotate_left
  ·refine aq.block ?_;exact(az h1)<|(cM)<|zo [.tmp 2] (hq:=by rw[show decide (1<=op)=false by have:=ww h1;simp;omega];rfl)
  cases h2:decide (11<op);rotate_left
  ·refine aq.block ?_;exact(az (n2 h1 h2))<|(cM)<|zo [.tmp 2] (hq:=by rw[show decide (op<=11)=false by have:=ww h2;simp;omega,Bool.and_false];rfl)
  have g1:=wt h1;have g2:=wt h2;rw[show decide (1<=op)=true by simp;omega,show decide (op<=11)=true by simp;omega];refine aq.mono (Q:=λe st=>e=.normal/\Fg st ⟨[(1,.ptr 0 0),(3,cD (rG op))],59,[.cells [aa op,aa n,.sl kids.length 3 (kids.flatMap aD)]],[]⟩) ?_ ?_
  ·refine aq.block ?_;refine(az (n2 h1 h2))<|(zN) ?_
   cases h3:decide (op=11);rotate_left
   ·refine(az h3)<|(cM) ?_;exact⟨rfl,(Fg.less (by (simp only[bI,bj,dI,↓reduceIte,Nat.reduceEqDiff,rG,t8 (ww h3)])<;>(repeat' apply And.intro)<;>first | rfl | trivial) (by (simp only[bI,bj,or_true,true_or,rG,t8 (ww h3)])<;>(repeat' apply And.intro)<;>first | exact .inr rfl | exact .inl rfl | trivial))⟩
   refine(az h3)<|(zN) ?_
   cases h4:decide (5<=op);rotate_left
   ·refine(az h4)<|(cM) ?_;exact⟨rfl,(Fg.less (by (simp only[bI,bj,dI,↓reduceIte,Nat.reduceEqDiff,rG,ul (wt h3),t8 (ww h4)])<;>(repeat' apply And.intro)<;>first | rfl | trivial) (by (simp only[bI,bj,or_true,true_or,rG,ul (wt h3),t8 (ww h4)])<;>(repeat' apply And.intro)<;>first | exact .inr rfl | exact .inl rfl | trivial))⟩
   ·refine(az h4)<|(zN) ?_;exact⟨rfl,(Fg.less (by (simp only[bI,bj,dI,↓reduceIte,Nat.reduceEqDiff,rG,ul (wt h3),ul (wt h4)])<;>(repeat' apply And.intro)<;>first | rfl | trivial) (by (simp only[bI,bj,or_true,true_or,rG,ul (wt h3),ul (wt h4)])<;>(repeat' apply And.intro)<;>first | exact .inr rfl | exact .inl rfl | trivial))⟩
  rintro e st ⟨rfl,hfg⟩;refine aq.fg hfg ?_;clear hfg
  (try change aq _ _ _ _ _)
  generalize rG op=w;by_cases h3:kids.length=w;rotate_left
  ·rw[show decide (kids.length=w)=false by simpa using h3]
   exact(az (show decide ((kids.length:Int)=(w:Int))=false by simp;omega))<|(cM)<|zo [.tmp 2]
  rw[show decide (kids.length=w)=true by simpa using h3]
  have h3':decide ((kids.length:Int)=(w:Int))=true:=by simp;omega
  cases h4:decide (n<0);rotate_left
  ·exact(az (n2 h3' h4))<|(cM)<|zo [.tmp 2]
  cases h5:decide (9999999<n);rotate_left
  ·exact(az (n3 h3' h4 h5))<|(cM)<|zo [.tmp 2]
  by_cases h7:(decide (0<n)&&!(decide (op=1)))=true
  ·rw[Bool.and_eq_true,Bool.not_eq_true'] at h7
   exact(az (n5 h3' h4 h5 @h7.1 @h7.2))<|(cM)<|zo [.tmp 2] (hq:=by rw[h7.1,h7.2];rfl)
  have h8:(decide (0<n)&&!(decide (op=1)))=false:=by simpa using h7
  rw[h8]
  (repeat refine aq.seq ?_)
  refine aq.mono (Q:=λe st=>e=.normal/\Fg st ⟨[(1,.ptr 0 0),(47,au false)],59,[.cells [aa op,aa n,.sl kids.length 3 (kids.flatMap aD)]],[]⟩) ?_ ?_
  ·cases h6:decide (0<n)
   ·refine(az (n4 h3' h4 h5 h6)) ?_;exact⟨rfl,zH⟩
   ·rw[h6] at h8
    have h9:decide (op=1)=true:=by
     cases h:decide (op=1) with
     | true=>rfl
     | false=>rw[h] at h8;cases h8
    refine(az (n5 h3' h4 h5 h6 h9)) ?_;exact⟨rfl,zH⟩
  rintro e st ⟨rfl,hfg⟩;refine aq.fg hfg ?_;clear hfg
  (try change aq _ _ _ _ _)
  refine(iY)<|(zs) ?_;refine zL kids (λk=>(kids.take k).all gr=true) (λk=>[(49,ah 3 kids aD),(50,aa kids.length),(51,aa k)]) (λk=>[]) zH zp ?_;intro k hk hall;refine zT kids k ?_ ?_;rintro rfl;rotate_left;intro x hx hlt;rotate_left
  ·refine(eN)<|(zV) ?_
   rw[List.take_length] at hall;exact zo [.tmp 2] (hq:=by rw[hall];rfl)
  have hxm:=List.mem_of_getElem? hx;have ih:=xL d x (hkd x hxm) (hks x hxm);have hxl:((kids.flatMap aD).drop (k*3)).take 3=aD x:=aH (e:=3) (enc:=aD) eL hx
  have hnext:gr x=true->(kids.take (k+1)).all gr=true:=λh=>by rw[bz hx,List.all_append,hall];simp[h]
  have hbad:gr x=false->kids.all gr=false:=λh=>by rw[List.all_eq_false];exact⟨x,hxm,by rw[h];decide⟩
  obtain⟨op',n',kids'⟩:=x;simp only[dz] at hxl ih
  refine(gh)<|(az (n2 hlt hxl))<|(zC)<|(zK ih) ?_
  cases h10:gr (.mk op' n' kids')
  ·exact(zR)<|(cM)<|zo [.tmp 2] (hq:=by rw[hbad h10];rfl)
  refine(zR)<|(zN)<|(az (zi hlt hlen)) ?_;refine zX hlt zH (hnext h10)
def Bt(f:bu)(hf:gJ f):PC prog 76 [.ag (aD f)] (·=au (gr f)):=xL _ f (dk _) hf
def eb(f:bu):Bool:=decide (fU f 60<=60)&&gr f
def rD(f:bu)(hf:gJ f):PC prog 38 [.ag (aD f)] (·=au (Proofs.eb f)):=by
 have hn:=KO f hf 60;have hr:=Bt f hf;refine pB 10 Tryz.func38 ?_;have hv:Proofs.eb f=(decide (fU f 60<=60)&&gr f):=rfl;generalize fU f 60=N at hn hv;generalize gr f=R at hr hv;obtain⟨op,n,kids⟩:=f;rw[dz] at hn hr ⊢
 refine(kK)<|(zK hn) ?_
 cases h1:decide (N<=60)
 ·exact(cK h1)<|zo [.tmp 2] (hq:=by rw[hv,h1];rfl)
 exact(Sy h1)<|(zK hr)<|(zR)<|zo [.tmp 2] (hq:=by rw[hv,h1];rfl)
mutual
def nr(u:jc):bu->Int×Int
 | .mk op n kids=>
  if op=1 then (n,n) else if op<=4 then od u op
  else match ou u kids with
   | a::b::l=>if op=11 then (match l with
    | c::_=>nV a b c
    | []=>(0,0)) else applyN op a b
   | _=>(0,0)
def ou(u:jc):List bu->List (Int×Int)
 | []=>[]
 | k::ks=>nr u k::ou u ks
end
def LL(p q r s:Int):eX (eX (eX p q) r) s<=ee (ee (ee p q) r) s:=by
 have h1:∀a b:Int,eX a b<=a:=λa b=>by unfold eX;split<;>omega
 have h2:∀a b:Int,a<=ee a b:=λa b=>by unfold ee;split<;>omega
 have:=h1 p q;have:=h1 (eX p q) r;have:=h1 (eX (eX p q) r) s;have:=h2 p q;have:=h2 (ee p q) r;have:=h2 (ee (ee p q) r) s;omega
def D1(f:Int->Int->Int)(a b c d:Int):(fv f a b c d).1<=(fv f a b c d).2:=by
 unfold fv;split
 ·exact LL _ _ _ _
 ·exact dB _
def join_le(a b c d:Int):(mw a b c d).1<=(mw a b c d).2:=by
 unfold mw;split
 ·exact LL _ _ _ _
 ·exact dB _
def Rx(l:List (Int×Int))(x:Int×Int)(h:l≠[]):(l.foldl jf x).1<=(l.foldl jf x).2:=by
 rcases List.eq_nil_or_concat l with rfl | ⟨a,y,rfl⟩
 ·exact t7 rfl h
 ·rw[List.concat_eq_append,d7];exact join_le _ _ _ _
def MR(a0 a1 b0 b1:Int):(jQ a0 a1 b0 b1).1<=(jQ a0 a1 b0 b1).2:=by
 unfold jQ;by_cases h:mn a0 a1 b0 b1=[]
 ·rw[h];exact dB _
 ·exact Rx _ _ h
def C1{a b c d:Int}(h1:a<=b)(h2:c<=d):eX a c<=eX b d/\ee a c<=ee b d:=by
 unfold eX ee;constructor<;>split<;>split<;>omega
def OG(op:Int){a b:Int×Int}(ha:a.1<=a.2)(hb:b.1<=b.2):(applyN op a b).1<=(applyN op a b).2:=by
 unfold applyN;split
 ·exact D1 _ _ _ _ _
 split
 ·exact D1 _ _ _ _ _
 split
 ·exact D1 _ _ _ _ _
 split
 ·exact(C1 ha hb).1
 split
 ·exact(C1 ha hb).2
 ·exact MR _ _ _ _
def MJ{a b c:Int×Int}(hb:b.1<=b.2)(hc:c.1<=c.2):(nV a b c).1<=(nV a b c).2:=by
 unfold nV;split
 ·exact hb
 split
 ·exact hc
 ·exact join_le _ _ _ _
structure jc.ok (u:jc):Prop where
 a:u.u1<=u.u2
 b:u.u3<=u.u4
 c:u.u5<=u.u6
def Ni{u:jc}(h:u.ok)(op:Int):(od u op).1<=(od u op).2:=by
 unfold od;split
 ·exact h.a
 split
 ·exact h.b
 ·exact h.c
mutual
def Mj{u:jc}(h:u.ok):∀f:bu,(nr u f).1<=(nr u f).2
 | .mk op n kids=>by
  have ih:=HO h kids;rw[nr];split
  ·exact dB _
  split
  ·exact Ni h op
  ·split
   ·rename_i a b l hl;rw[hl] at ih;split
    ·split
     ·exact MJ (ih _ (by simp)) (ih _ (by simp))
     ·exact dB _
    ·exact OG op (ih _ (by simp)) (ih _ (by simp))
   ·exact dB _
def HO{u:jc}(h:u.ok):∀l:List bu,∀p∈ou u l,p.1<=p.2
 | [],p,hp=>by rw[ou] at hp;cases hp
 | k::ks,p,hp=>by
  rw[ou] at hp
  rcases mem_cons.1 hp with rfl | hp
  ·exact Mj h k
  ·exact HO h ks p hp
end
def C7(P:Program)(nm:String)(t:TypeId)(v:AV)(ys:List AV):Ev.cI P (.a (.fn (.method nm) [.iface t v] ys))=(jq P t nm).map λ_=>.a (.fn (.method nm) [.iface t v] ys):=rfl
def qa(u:jc):SV:=.iface 182 (.ag (ea u))
def Fq:jq prog 182 "bogie/formula.number"=some 268:=by kernel_rfl
def Fp:jq prog 182 "bogie/formula.letter"=some 267:=by kernel_rfl
def xJ:jq prog 182 "bogie/formula.apply"=some 265:=by kernel_rfl
def ve:jq prog 182 "bogie/formula.choose"=some 266:=by kernel_rfl
def DE(u:jc)(hu:u.ok):∀(d:Nat) (f:bu),SizeOf.sizeOf f<d->gJ f->gr f=true->PC Tryz.prog 97 [qa u,.ag (aD f)] (·=oU (nr u f))
 | 0,f,hd,_,_=>t7 hd (Nat.not_lt_zero _)
 | d+1,.mk op n kids,hd,hf,hr=>by
  cases hf with
  | mk hlen hks=>
  have hkd:∀k∈kids,SizeOf.sizeOf k<d:=λk hk=>by
   have h1:=List.sizeOf_lt_of_mem hk
   have h2:SizeOf.sizeOf (bu.mk op n kids)=1+SizeOf.sizeOf op+SizeOf.sizeOf n+SizeOf.sizeOf kids:=by simp
   omega
  rw[dz,nr]
  refine pB 67 Tryz.func97 ?_;refine(az (n2 @qa.eq_1 @ea.eq_1))<|(zB) ?_
  cases h1:decide (op=1);rotate_left
  ·refine(az h1)<|(zY) ?_
   rw[t8 (ww h1)]
   exact(zC)<|(zK (Ft u n) (hc:=IY @Fq))<|(cK (n2 @oU.eq_1 @lF.eq_1))<|zo [.cell 4 54]
  rw[ul (wt h1)]
  refine(az h1)<|(zN) ?_
  cases h2:decide (op<=4);rotate_left
  ·refine(az h2)<|(zY) ?_
   rw[t8 (ww h2)]
   exact(zC)<|(zK (Fl u op) (hc:=IY @Fp))<|(cK (n2 @oU.eq_1 @lF.eq_1))<|zo [.cell 4 54]
  rw[ul (wt h2)]
  refine(az h2)<|(zN) ?_
  rw[gr,Bool.and_eq_true,Bool.and_eq_true,Bool.and_eq_true,Bool.and_eq_true] at hr;obtain⟨⟨hr1,hr2,_⟩,hr3⟩:=hr;have hop1:=ww hr1.1;have hop2:=ww hr1.2;have hkl:=ww hr2;have h1':=wt h1;have h2':=wt h2;rw[tj] at hr3;have n0:de (.int .i64 0)=some 0:=rfl;have n1:de (.int .i64 1)=some 1:=rfl;have n2:de (.int .i64 2)=some 2:=rfl
  have hkid:∀{j:Nat} {x:bu},kids[j]?=some x->PC Tryz.prog 97 [qa u,.ag (aD x)] (·=oU (nr u x)):=λ{j x} hx=>by
   have hxm:=List.mem_of_getElem? hx;exact DE u hu d x (hkd x hxm) (hks x hxm) (List.all_eq_true.1 hr3 x hxm)
  have hat:∀{j:Nat} {x:bu},kids[j]?=some x->((kids.flatMap aD).drop (j*3)).take 3=aD x:=λhx=>aH (e:=3) (enc:=aD) eL hx;cases h3:decide (op=11)
  ·have h3':=wt h3
   have hw:kids.length=2:=by rw[hkl,rG,ul h3',t8 (by omega)]
   obtain⟨x0,x1,hk2⟩:∃x0 x1,kids=[x0,x1]:=by
    match kids,hw with
    | [a,b],_=>exact⟨a,b,rfl⟩
   have e0:kids[0]?=some x0:=by rw[hk2];rfl
   have e1:kids[1]?=some x1:=by rw[hk2];rfl
   have hrun:ou u kids=[nr u x0,nr u x1]:=by rw[hk2,ou,ou,ou]
   rw[hrun];simp only[ul h3'];have hb:=Mj hu x1;have a0:=hat e0;have a1:=hat e1;have k0:=hkid e0;have k1:=hkid e1
   have t0:(kids.flatMap aD).take 3=aD x0:=by rwa [Nat.zero_mul,List.drop_zero] at a0
   rw[qa,ea] at k0 k1;generalize nr u x0=r0 at k0 ⊢;generalize nr u x1=r1 at k1 hb ⊢;obtain⟨o0,m0,s0⟩:=x0;obtain⟨o1,m1,s1⟩:=x1;rw[dz] at t0 a1 k0 k1
   have l0:0<kids.length:=by omega
   have l1:1<kids.length:=by omega
   refine(az h3)<|(zN)<|(zs) ?_;refine nQ [0,0,2,0,0,16,48,112,248,0,0,1024,3072,7168,16376,1,32769,98305,262143,524287] ?_;refine(me (n3 n0 l0 t0)) ?_;refine SD.k (by rfl) rfl rfl (by rfl) rfl rfl zc (k0) (zw) rfl ?_;refine(me (n3 n1 l1 a1)) ?_;refine SD.k (by rfl) rfl rfl (by rfl) rfl rfl zc (k1) (zw) rfl ?_;refine(me (n3 @cT.eq_28 @C7 @xJ)) ?_;refine SD.k (by rfl) rfl rfl (by rfl) rfl rfl (IY @xJ) (HY u op r0 r1 hb) (zw) rfl ?_;refine SD.e (by rfl) rfl (by rfl) rfl rfl (by rfl) zl ?_;exact(zM)<|zo [.cell 4 54]
  ·have h3':=ww h3
   have hw:kids.length=3:=by rw[hkl,rG,t8 h3']
   obtain⟨x0,x1,x2,hk2⟩:∃x0 x1 x2,kids=[x0,x1,x2]:=by
    match kids,hw with
    | [a,b,c],_=>exact⟨a,b,c,rfl⟩
   have e0:kids[0]?=some x0:=by rw[hk2];rfl
   have e1:kids[1]?=some x1:=by rw[hk2];rfl
   have e2:kids[2]?=some x2:=by rw[hk2];rfl
   have hrun:ou u kids=[nr u x0,nr u x1,nr u x2]:=by rw[hk2,ou,ou,ou,ou]
   rw[hrun];simp only[t8 h3'];have a0:=hat e0;have a1:=hat e1;have a2:=hat e2;have k0:=hkid e0;have k1:=hkid e1;have k2:=hkid e2
   have t0:(kids.flatMap aD).take 3=aD x0:=by rwa [Nat.zero_mul,List.drop_zero] at a0
   rw[qa,ea] at k0 k1 k2;generalize nr u x0=r0 at k0 ⊢;generalize nr u x1=r1 at k1 ⊢;generalize nr u x2=r2 at k2 ⊢;obtain⟨o0,m0,s0⟩:=x0;obtain⟨o1,m1,s1⟩:=x1;obtain⟨o2,m2,s2⟩:=x2;rw[dz] at t0 a1 a2 k0 k1 k2
   have l0:0<kids.length:=by omega
   have l1:1<kids.length:=by omega
   have l2:2<kids.length:=by omega
   refine(az h3)<|(zY)<|(zs) ?_;refine nQ [0,0,0,4,12,28,62,0,0,256,768,1792,4094,0,0,16384,49152,114688,262142,1,524289,1572865,4194303,8388607] ?_;refine(me (n3 n0 l0 t0)) ?_;refine SD.k (by rfl) rfl rfl (by rfl) rfl rfl zc (k0) (zw) rfl ?_;refine(me (n3 n1 l1 a1)) ?_;refine SD.k (by rfl) rfl rfl (by rfl) rfl rfl zc (k1) (zw) rfl ?_;refine(me (n3 @n2 l2 a2)) ?_;refine SD.k (by rfl) rfl rfl (by rfl) rfl rfl zc (k2) (zw) rfl ?_;refine(me (n3 @cT.eq_28 @C7 @ve)) ?_;refine SD.k (by rfl) rfl rfl (by rfl) rfl rfl (IY @ve) (E1 u r0 r1 r2) (zw) rfl ?_;refine SD.e (by rfl) rfl (by rfl) rfl rfl (by rfl) zl ?_;exact(zM)<|zo [.cell 4 54]
def QP(u:jc)(hu:u.ok)(f:bu)(hf:gJ f)(hr:gr f=true):PC prog 97 [qa u,.ag (aD f)] (·=oU (nr u f)):=DE u hu _ f (dk _) hf hr
def jc.M3(u:jc):Bool:=jW u.u1 u.u2&&(jW u.u3 u.u4&&jW u.u5 u.u6)
def rK(f:bu)(u:jc):Int×Int:=if u.M3=true/\eb f=true then (ee 0 (nr u f).1,ee 0 (nr u f).2) else (0,0)
def JB{a b:Int}(h:jW a b=true):a<=b:=by
 unfold jW at h;simp only[bx,cv,wd] at h;omega
def jc.Rz{u:jc}(h:u.M3=true):u.ok:=by
 unfold jc.M3 at h;simp only[bx] at h;exact⟨JB h.1,JB h.2.1,JB h.2.2⟩
def H4(f:bu)(u:jc)(hf:gJ f):PC prog 45 [.ag (aD f),.ag (ea u)] (·=oU (rK f u)):=by
 have hv:=rD f hf;have hr:=λh1 h2=>QP u h1 f hf h2
 have hd:rK f u=if u.M3=true/\Proofs.eb f=true then (ee 0 (nr u f).1,ee 0 (nr u f).2) else (0,0):=rfl
 have hvr:Proofs.eb f=true->gr f=true:=λh=>by unfold Proofs.eb at h;simp only[bx] at h;exact h.2
 generalize Proofs.eb f=V at hv hd hvr;generalize gr f=R at hr hvr;generalize nr u f=r at hr hd;obtain⟨op,n,kids⟩:=f;rw[dz] at hv hr ⊢;obtain⟨ivs,hivs⟩:∃l:List (Int×Int),l=[(u.u1,u.u2),(u.u3,u.u4),(u.u5,u.u6)]:=⟨_,rfl⟩
 have hgood:u.M3=ivs.all λp=>jW p.1 p.2:=by rw[hivs];simp[jc.M3]
 have hkc:∀(o:Nat) (l:List (Int×Int)),(l.flatMap cY).map (aM o)=l.flatMap cY:=λo l=>aY mI o l;have hcl:=aL rO ivs
 have hlen:ivs.length<=1000:=by rw[hivs];simp
 refine pB 53 Tryz.func45 ?_;refine(az @ea.eq_1)<|(zV)<|(zs) ?_;refine zL ivs (λk=>(ivs.take k).all (λp=>jW p.1 p.2)=true) (λk=>[(2,.ptr 0 0),(3,.ptr 1 0),(4,.ptr 2 0),(14,.buf 3 ivs.length 2 (some 3)),(15,aa ivs.length),(16,aa k)]) (λk=>[.cells [aa op,aa n,.sl kids.length 3 (kids.flatMap aD)],.cells (ea u),.cells [aa 0,aa 0],.cells (ivs.flatMap cY)]) (bK (n9 @ea.eq_1 hivs @length_cons.{0} @length_nil.{0} @flatMap_cons.{0,0} @flatMap_nil.{0,0} @cY.eq_1 @cons_append.{0} @nil_append.{0})) zp ?_;intro k hk hall;refine zT ivs k ?_ ?_;rintro rfl;rotate_left;intro x hx hlt;rotate_left
 ·refine(eN) ?_;rw[bs] at hall;rw[<-hgood] at hall
  refine(iC @ea.eq_1)<|(zK hv) ?_
  cases hV:V
  ·exact(zR)<|(cM)<|zo [.cell 4 54] (hq:=by rw[hd,ul (by rw[hV];simp)];rfl)
  refine(zR)<|(zN) ?_
  have hrr:=hr (jc.Rz hall) (hvr hV);rw[qa,ea] at hrr
  exact(iC @ea.eq_1)<|(zK hrr)<|(cK (n2 @oU.eq_1 @lF.eq_1))<|(az @fE)<|zo [.cell 4 54] (hq:=by rw[hd,t8 ⟨hall,hV⟩];rfl)
 have hnext:jW x.1 x.2=true->(ivs.take (k+1)).all (λp=>jW p.1 p.2)=true:=λh=>by rw[bz hx,co,hall];simp[h]
 have hbad:jW x.1 x.2=false->rK (.mk op n kids) u=(0,0):=λh=>by
  rw[hd,ul];rintro⟨h2,_⟩;rw[hgood] at h2;have:=all_eq_true.1 h2 x (bk hx);rw[h] at this;cases this
 refine(gh)<|(az (n7 hlt (aH (e:=2) (enc:=cY) (λ_=>rfl) hx) @cY.eq_1 @ea.eq_1 hcl hkc (show k*2+2<=ivs.length*2 by omega))) ?_
 cases g1:decide (x.1<0);rotate_left
 ·exact(az g1)<|(cM)<|zo [.cell 4 54] (hq:=by rw[hbad (by rw[jW,g1];rfl)];rfl)
 cases g2:decide (x.2<x.1);rotate_left
 ·exact(az (n2 g1 g2))<|(cM)<|zo [.cell 4 54] (hq:=by rw[hbad (by rw[jW,g1,g2];rfl)];rfl)
 cases g3:decide (1000000<x.2);rotate_left
 ·exact(az (n3 g1 g2 g3))<|(cM)<|zo [.cell 4 54] (hq:=by rw[hbad (by rw[jW,g1,g2,g3];rfl)];rfl)
 refine(az (n3 g1 g2 g3))<|(zN)<|(az (zi hlt (show ivs.length<=1000000 by omega))) ?_;refine zX hlt (bK (n2 hkc @ea.eq_1)) (hnext (by rw[jW,g1,g2,g3];rfl))
def o6{α:Type}{enc:α->List SV}(h:∀x,(enc x).all ef=true)(l:List α):(l.flatMap enc).all ef=true:=by
 rw[List.all_flatMap,all_eq_true];exact λx _=>h x
def dS(p:aI):cm (ak p)=true:=rfl
def gY(p:cA):cm (aZ p)=true:=rfl
def LA(l:List bH):(l.flatMap aF).all ef=true:=o6 (λ_=>rfl) l
def Dc(l:List aI):(l.flatMap ak).all ef=true:=o6 (λ_=>rfl) l
def Df(l:List cA):(l.flatMap aZ).all ef=true:=o6 (λ_=>rfl) l
def x9:SC prog 46 [ah 14 ([]:List aI) ak] [] [] (λr S'=>r=.e0 14/\S'=[]):=by
 refine Mk 8 func46 ?_;refine(kK) ?_;refine aG.Nw (by rfl) rfl rfl (by rfl) rfl rfl (by simp only[an]) (by kernel_rfl) ?_;intro b _;refine(zR) ?_;cases b
 ·refine(iY) ?_;refine aq.fg (Fg.e0 2 14 (.inr ⟨0,rfl⟩)) ?_;refine aq.fg (st':=⟨[(2,.e0 14)],8,[],[]⟩) zH ?_;refine(zE) ?_;exact zP [.tmp 2]
 ·refine(cM) ?_;refine aq.fg (Fg.e0 2 14 (.inl rfl)) ?_;refine(zE) ?_;exact zP [.tmp 2]
def qv(l:List aI)(hlen:l.length<=1000000)(hne:l≠[]):SC prog 46 [ah 14 l ak] [] [] (λr S'=>r=.buf 1 l.length 14 none/\S'=[.gone,.cells (l.flatMap ak)]):=by
 have h0:¬l.length=0:=λe=>hne (length_eq_zero_iff.1 e);refine Mk 8 func46 ?_;have hkc:=λo=>aY (enc:=ak) dS o l;have hon:(l.flatMap ak).all ef=true:=Dc l;refine(kK) ?_;refine aG.Nw (by rfl) rfl rfl (by rfl) rfl rfl (by simp only[an]) (by kernel_rfl) ?_;intro b hb;cases b;rotate_left
 ·exact t7 (hb rfl) h0
 refine(zR)<|(zN) ?_
 have hp0:0<l.length:=d2 h0;refine(az (n6 h0 hp0 hlen hon hkc @ad)) ?_;refine aq.fg (st':=⟨[(2,.buf 1 l.length 14 none)],8,[.gone,.cells (l.flatMap ak)],[]⟩) zH ?_;refine(zE) ?_;exact zP [.tmp 2]
def yb:SC prog 137 [ah 2 ([]:List cA) aZ] [] [] (λr S'=>r=.e0 2/\S'=[]):=by
 refine Mk 8 func137 ?_;refine(kK) ?_;refine aG.Nw (by rfl) rfl rfl (by rfl) rfl rfl (by simp only[an]) (by kernel_rfl) ?_;intro b _;refine(zR) ?_;cases b
 ·refine(iY) ?_;refine aq.fg (Fg.e0 2 2 (.inr ⟨0,rfl⟩)) ?_;refine aq.fg (st':=⟨[(2,.e0 2)],8,[],[]⟩) zH ?_;refine(zE) ?_;exact zP [.tmp 2]
 ·refine(cM) ?_;refine aq.fg (Fg.e0 2 2 (.inl rfl)) ?_;refine(zE) ?_;exact zP [.tmp 2]
def yc(l:List cA)(hlen:l.length<=1000000)(hne:l≠[]):SC prog 137 [ah 2 l aZ] [] [] (λr S'=>r=.buf 1 l.length 2 none/\S'=[.gone,.cells (l.flatMap aZ)]):=by
 have h0:¬l.length=0:=λe=>hne (length_eq_zero_iff.1 e);refine Mk 8 func137 ?_;have hkc:=λo=>aY (enc:=aZ) gY o l;have hon:(l.flatMap aZ).all ef=true:=Df l;refine(kK) ?_;refine aG.Nw (by rfl) rfl rfl (by rfl) rfl rfl (by simp only[an]) (by kernel_rfl) ?_;intro b hb;cases b;rotate_left
 ·exact t7 (hb rfl) h0
 refine(zR)<|(zN) ?_
 have hp0:0<l.length:=d2 h0;refine(az (n6 h0 hp0 hlen hon hkc @ad)) ?_;refine aq.fg (st':=⟨[(2,.buf 1 l.length 2 none)],8,[.gone,.cells (l.flatMap aZ)],[]⟩) zH ?_;refine(zE) ?_;exact zP [.tmp 2]
def BX:SC prog 40 [ah 14 ([]:List bH) aF] [] [] (λr S'=>r=.e0 14/\S'=[]):=by
 refine Mk 8 func40 ?_;refine(kK) ?_;refine aG.Nw (by rfl) rfl rfl (by rfl) rfl rfl (by simp only[an]) (by kernel_rfl) ?_;intro b _;refine(zR) ?_;cases b
 ·refine(iY) ?_;refine aq.fg (Fg.e0 2 14 (.inr ⟨0,rfl⟩)) ?_;refine aq.fg (st':=⟨[(2,.e0 14)],8,[],[]⟩) zH ?_;refine(zE) ?_;exact zP [.tmp 2]
 ·refine(cM) ?_;refine aq.fg (Fg.e0 2 14 (.inl rfl)) ?_;refine(zE) ?_;exact zP [.tmp 2]
def BY(l:List bH)(hlen:l.length<=1000000)(hne:l≠[]):SC prog 40 [ah 14 l aF] [] [] (λr S'=>r=.buf 1 l.length 14 none/\S'=[.gone,.cells (l.flatMap aF)]):=by
 have h0:¬l.length=0:=λe=>hne (length_eq_zero_iff.1 e);refine Mk 8 func40 ?_;have hkc:=λo=>aY (enc:=aF) dn o l;have hon:(l.flatMap aF).all ef=true:=LA l;refine(kK) ?_;refine aG.Nw (by rfl) rfl rfl (by rfl) rfl rfl (by simp only[an]) (by kernel_rfl) ?_;intro b hb;cases b;rotate_left
 ·exact t7 (hb rfl) h0
 refine(zR)<|(zN) ?_
 have hp0:0<l.length:=d2 h0;refine(az (n6 h0 hp0 hlen hon hkc @ad)) ?_;refine aq.fg (st':=⟨[(2,.buf 1 l.length 14 none)],8,[.gone,.cells (l.flatMap aF)],[]⟩) zH ?_;refine(zE) ?_;exact zP [.tmp 2]
section
variable {α:Type} {enc:α->List SV} {e:Nat}
def ju(he:∀x,(enc x).length=e):∀(l:List α) (i:Nat),(l.flatMap enc).take (i*e)=(l.take i).flatMap enc
 | [],i=>by simp
 | a::l,0=>by simp
 | a::l,i+1=>by
  rw[flatMap_cons,d5,eC,e6,flatMap_cons,<-ju he l i];rw[em,he,show e+i*e-e=i*e by omega,aj (by rw[he];omega)]
def mW(he:∀x,(enc x).length=e):∀(l:List α) (i:Nat),(l.flatMap enc).drop (i*e)=(l.drop i).flatMap enc
 | [],i=>by simp
 | a::l,0=>by simp
 | a::l,i+1=>by
  rw[flatMap_cons,d5,eC,e5,<-mW he l i];rw[List.drop_append,he,show e+i*e-e=i*e by omega,bZ (by rw[he];omega),nil_append]
def kS(he:∀x,(enc x).length=e){l:List α}{i:Nat}(y:α)(h:i<l.length):(l.flatMap enc).take (i*e)++(enc y++(l.flatMap enc).drop (i*e+e))=(l.set i y).flatMap enc:=by
 rw[ju he,show i*e+e=(i+1)*e by rw[d5],mW he,b5,t8 h,be,flatMap_cons]
end
def xW{α:Type}(lt:α->α->Bool):Nat->List α->List α
 | 0,l=>l
 | j+1,l=>match l[j+1]?,l[j]? with
  | some x,some y=>if lt x y=true then xW lt j ((l.set (j+1) y).set j x) else l
  | _,_=>l
def Ef{α:Type}(lt:α->α->Bool):Nat->Nat->List α->List α
 | 0,_,l=>l
 | n+1,i,l=>Ef lt n (i+1) (xW lt i l)
def tb{α:Type}(lt:α->α->Bool)(l:List α):List α:=Ef lt (l.length-1) 1 l
def Gg{α:Type}{lt:α->α->Bool}:∀(j:Nat) (l:List α),(xW lt j l).length=l.length
 | 0,l=>rfl
 | j+1,l=>by
  unfold xW;split
  ·split
   ·rw[Gg j,bi,bi]
   ·rfl
  ·rfl
def GP{α:Type}{lt:α->α->Bool}:∀(n i:Nat) (l:List α),(Ef lt n i l).length=l.length
 | 0,_,_=>rfl
 | n+1,i,l=>by rw[Ef,GP n,Gg]
def Af{α:Type}(lt:α->α->Bool)(l:List α):(tb lt l).length=l.length:=GP _ _ _
def swap_perm{α:Type}{l:List α}{j:Nat}{x y:α}(hx:l[j+1]?=some x)(hy:l[j]?=some y):((l.set (j+1) y).set j x).Perm l:=by
 have h1:j+1<l.length:=bf hx
 have h0:j<l.length:=by omega
 have e:l=l.take j++(y::x::l.drop (j+2)):=by
  have a1:l.drop j=y::l.drop (j+1):=fC hy;have a2:l.drop (j+1)=x::l.drop (j+2):=fC hx;rw[<-a2,<-a1,eB]
 have hlt:(l.take j).length=j:=by rw[al];omega
 have e2:(l.set (j+1) y).set j x=l.take j++(x::y::l.drop (j+2)):=by
  apply fw;intro i;rw[f3,List.getElem?_append,hlt];by_cases c1:j=i
  ·subst c1;rw[t8 rfl,bi,t8 h0,ul (gd _),d4];rfl
  ·rw[ul c1,f3];by_cases c2:j+1=i
   ·subst c2;rw[t8 rfl,t8 h1,ul (by omega),show j+1-j=1 by omega];rfl
   ·rw[ul c2];by_cases c3:i<j
    ·rw[t8 c3,fm,t8 c3]
    ·rw[ul c3,show i-j=(i-(j+2))+2 by omega,c4,c4,ce,show j+2+(i-(j+2))=i by omega]
 rw[e2]
 conv=>rhs;rw[e]
 exact Perm.append_left _ (Perm.swap _ _ _)
def Cm{α:Type}{lt:α->α->Bool}:∀(j:Nat) (l:List α),(xW lt j l).Perm l
 | 0,l=>Perm.refl _
 | j+1,l=>by
  unfold xW;split
  ·rename_i x y hx hy;split
   ·exact(Cm j _).trans (swap_perm hx hy)
   ·exact Perm.refl _
  ·exact Perm.refl _
def CM{α:Type}{lt:α->α->Bool}:∀(n i:Nat) (l:List α),(Ef lt n i l).Perm l
 | 0,_,_=>Perm.refl _
 | n+1,i,l=>by rw[Ef];exact(CM n (i+1) _).trans (Cm i l)
def CL{α:Type}(lt:α->α->Bool)(l:List α):(tb lt l).Perm l:=CM _ _ _
def G7(cmp:bH->bH->Int)(x y:bH):Bool:=decide (cmp x y<0)
abbrev Wb:=bH×Int
def SX{p:Prop} (h:p:=by
  refine J6 53 var ?_;refine(zV) ?_
  (repeat refine aq.seq ?_)
  refine aq.block (aq.loop (λm st=>∃(i:Nat) (q:List vas),(q.length=l.length/\(i+1<=l.length\/i=0))/\tb (vat cmp) l=Ef (vat cmp) (l.length-(i+1)) (i+1) q/\l.length-i=m/\st=⟨[(0,.buf 0 l.length vau c),(1,aa 0),(2,aa l.length),(3,.fn g [] []),(8,cD (i+1)),(1000000,.ptr 0 0)],53,[.cells (q.flatMap vav)],[]⟩) l.length zH ⟨0,l,⟨rfl,.inr rfl⟩,rfl,Nat.sub_zero _,rfl⟩ (by rintro m st ⟨i,q,_,_,_,rfl⟩;rfl) ?_);rintro m st ⟨i,q,⟨hql,hi⟩,hres,rfl,rfl⟩;refine(zV) ?_;by_cases hlt:i+1<l.length;rotate_left
  ·rw[show decide (((i+1:Nat):Int)<(l.length:Int))=false by simp only[wd];((try simp only[vau] at *)<;>omega)];refine(zN) ?_;refine aq.fg (st':=⟨[(1000000,.ptr 0 0)],53,[.cells (q.flatMap vav)],[]⟩) zH ?_;refine aq.exit ?_;simp only[fG,dH,cB,bX,if_true];rw[show l.length-(i+1)=0 by ((try simp only[vau] at *)<;>omega),Ef] at hres;exact zP [] (hq:=by (try simp only[df,aX]);first | done | (rw[hres];first | exact⟨rfl,rfl⟩ | exact⟨trivial,rfl⟩ | exact⟨rfl,trivial⟩ | exact⟨trivial,trivial⟩))
  rw[show decide (((i+1:Nat):Int)<(l.length:Int))=true by simp only[wp];((try simp only[vau] at *)<;>omega)]
  refine(gh)<|(zV) ?_
  obtain⟨s,hs⟩:∃s,l.length-(i+1)=s+1:=⟨l.length-(i+1)-1,by ((try simp only[vau] at *)<;>omega)⟩;rw[hs,Ef] at hres
  (repeat refine aq.seq ?_)
  refine aq.block (aq.loop (λm st=>∃(j:Nat) (p:List vas),(p.length=l.length/\j<=i+1)/\xW (vat cmp) (i+1) q=xW (vat cmp) j p/\j=m/\st=⟨[(0,.buf 0 l.length vau c),(1,aa 0),(2,aa l.length),(3,.fn g [] []),(8,cD (i+1)),(9,cD j),(1000000,.ptr 0 0)],53,[.cells (p.flatMap vav)],[]⟩) (i+1) zH ⟨i+1,q,⟨hql,Nat.le_refl _⟩,rfl,rfl,rfl⟩ (by rintro m st ⟨j,p,_,_,_,rfl⟩;rfl) ?_);rintro m st ⟨j,p,⟨hpl,hj⟩,hb,rfl,rfl⟩;have hil:i+1<l.length:=hlt
  have hcl:(p.flatMap vav).length=l.length*vau:=by rw[aL vaw,hpl]
  simp only[vau] at hcl
  cases j with
  | zero=>
   refine(zs) ?_;refine nQ [0,0,3,7,15,15,15,111,239,15,15,1039,3599,7695,16383,32767,65535] ?_;refine(me (show decide ((0:Int)<((0:Nat):Int))=false from rfl))<|(zM)<|(eN)<|(az (qA (show -9223372036854775808<=((i+1:Nat):Int)+1/\((i+1:Nat):Int)+1<=9223372036854775807 from⟨by ((try simp only[vau] at *)<;>omega),by ((try simp only[vau] at *)<;>omega)⟩))) ?_;exact⟨l.length-(i+1),_,by ((try simp only[vau] at *)<;>omega),zH,i+1,p,⟨hpl,.inl (by ((try simp only[vau] at *)<;>omega))⟩,by rw[hres,hb,xW,show l.length-(i+1+1)=s by ((try simp only[vau] at *)<;>omega)],rfl,rfl⟩
  | succ j=>
   have hj1:j+1<l.length:=by ((try simp only[vau] at *)<;>omega)
   have hj0:j<l.length:=by ((try simp only[vau] at *)<;>omega)
   obtain⟨x,hx⟩:∃x,p[j+1]?=some x:=⟨p[j+1],List.getElem?_eq_getElem (by ((try simp only[vau] at *)<;>omega))⟩;obtain⟨y,hy⟩:∃y,p[j]?=some y:=⟨p[j],List.getElem?_eq_getElem (by ((try simp only[vau] at *)<;>omega))⟩;have ax:((p.flatMap vav).drop ((j+1)*vau)).take vau=vav x:=aH (e:=vau) (enc:=vav) vaw hx;simp only[vau] at ax;have ay:((p.flatMap vav).drop (j*vau)).take vau=vav y:=aH (e:=vau) (enc:=vav) vaw hy;simp only[vau] at ay
   have hbs:xW (vat cmp) (j+1) p=if vat cmp x y=true then xW (vat cmp) j ((p.set (j+1) y).set j x) else p:=by rw[xW,hx,hy]
   have s1:=kS (enc:=vav) vaw (l:=p) (i:=j+1) y (by ((try simp only[vau] at *)<;>omega));have s2:=kS (enc:=vav) vaw (l:=p.set (j+1) y) (i:=j) x (by rw[List.length_set];((try simp only[vau] at *)<;>omega))
   have hcl2:((p.set (j+1) y).flatMap vav).length=l.length*vau:=by rw[aL vaw,List.length_set,hpl]
   simp only[vau] at hcl2;rw[vax y] at s1 ay;rw[vax x] at s2 ax;simp only[List.cons_append,List.nil_append] at s1 s2;have hgx:=hg x y;rw[vax y,vax x] at hgx;refine(zs) ?_;refine nQ [0,0,3,7,15,15,15,111,239,15,15,1039,3599,7695,16383,32767,65535] ?_;refine(me (n10 (show decide ((0:Int)<((j+1:Nat):Int))=true from by simp only[wp];((try simp only[vau] at *)<;>omega)) hj1 hj0 (QV (show -9223372036854775808<=((j+1:Nat):Int)-1/\((j+1:Nat):Int)-1<=9223372036854775807 from⟨by ((try simp only[vau] at *)<;>omega),by ((try simp only[vau] at *)<;>omega)⟩)) (show((j+1:Nat):Int)-1=(j:Int) from by ((try simp only[vau] at *)<;>omega)) hcl (show(j+1)*vau+vau<=l.length*vau by ((try simp only[vau] at *)<;>omega)) (show j*vau+vau<=l.length*vau by ((try simp only[vau] at *)<;>omega)) ax ay)) ?_;refine SD.k (by rfl) rfl rfl (by rfl) rfl rfl zc (hgx) (zw) rfl ?_;cases hc:decide (cmp x y<0)
   ·rw[vat,hc,ul (by decide)] at hbs
    refine(me hc)<|(zM)<|(eN)<|(az (qA (show -9223372036854775808<=((i+1:Nat):Int)+1/\((i+1:Nat):Int)+1<=9223372036854775807 from⟨by ((try simp only[vau] at *)<;>omega),by ((try simp only[vau] at *)<;>omega)⟩))) ?_;exact⟨l.length-(i+1),_,by ((try simp only[vau] at *)<;>omega),zH,i+1,p,⟨hpl,.inl (by ((try simp only[vau] at *)<;>omega))⟩,by rw[hres,hb,hbs,show l.length-(i+1+1)=s by ((try simp only[vau] at *)<;>omega)],rfl,rfl⟩
   ·rw[vat,hc,t8 rfl] at hbs
    refine(me hc)<|(zM)<|(gh)<|(zs) ?_;refine nQ [0,0,0,0,8,0,0,64,224,480,0,0,3072,7168,16355,32739,65535,131071] ?_;refine(me (n9 hj1 hj0 (QV (show -9223372036854775808<=((j+1:Nat):Int)-1/\((j+1:Nat):Int)-1<=9223372036854775807 from⟨by ((try simp only[vau] at *)<;>omega),by ((try simp only[vau] at *)<;>omega)⟩)) (show((j+1:Nat):Int)-1=(j:Int) from by ((try simp only[vau] at *)<;>omega)) hcl (show(j+1)*vau+vau<=l.length*vau by ((try simp only[vau] at *)<;>omega)) (show j*vau+vau<=l.length*vau by ((try simp only[vau] at *)<;>omega)) ax ay)) ?_;refine SD.e (by rfl) rfl (by rfl) rfl rfl (by rfl) (iZ (n3 hcl (show(j+1)*vau+vau<=l.length*vau by ((try simp only[vau] at *)<;>omega)) s1)) ?_;refine(me (n4 hj1 hj0 (QV (show -9223372036854775808<=((j+1:Nat):Int)-1/\((j+1:Nat):Int)-1<=9223372036854775807 from⟨by ((try simp only[vau] at *)<;>omega),by ((try simp only[vau] at *)<;>omega)⟩)) (show((j+1:Nat):Int)-1=(j:Int) from by ((try simp only[vau] at *)<;>omega)))) ?_;refine SD.e (by rfl) rfl (by rfl) rfl rfl (by rfl) (iZ (n3 hcl2 (show j*vau+vau<=l.length*vau by ((try simp only[vau] at *)<;>omega)) s2)) ?_;refine(zM)<|(az (n2 (QV (show -9223372036854775808<=((j+1:Nat):Int)-1/\((j+1:Nat):Int)-1<=9223372036854775807 from⟨by ((try simp only[vau] at *)<;>omega),by ((try simp only[vau] at *)<;>omega)⟩)) (show((j+1:Nat):Int)-1=(j:Int) from by ((try simp only[vau] at *)<;>omega)))) ?_;exact⟨j,_,by ((try simp only[vau] at *)<;>omega),zH,j,(p.set (j+1) y).set j x,⟨by rw[List.length_set,List.length_set,hpl],by ((try simp only[vau] at *)<;>omega)⟩,by rw[hb,hbs],rfl,rfl⟩):p:=h
open Go.Proofs.Tryz renaming func219 -> var in
open Go.Proofs renaming bH -> vas,G7 -> vat,aF -> vav in
open Go.Ev renaming q9 -> vau in
def Ky(g:FuncId)(cmp:bH->bH->Int)(hg:∀x y,PC prog g [.ag (aF x),.ag (aF y)] (·=aa (cmp x y)))(c:Option Nat)(l:List bH)(hlen:l.length<=100000):
 SC prog 219 [.buf 0 l.length 14 c,aa 0,aa l.length,.fn g [] []] [.cells (l.flatMap aF)] [] (λr S'=>r=.bC []/\S'=[.cells ((tb (G7 cmp) l).flatMap aF)]):=by
 have vaw:=@dP;have vax:=@dW;exact SX
def SY{p:Prop} (h:p:=by
  have hins:=vay g cmp hg c l (by ((try simp only[va3] at *)<;>omega));have hrc:∀(g:Nat->Nat) (l:List vaz),lr g (l.flatMap va0)=l.flatMap va0:=λg l=>bg (aA va1 l);have hbc:∀(B:Nat) (l:List vaz),gC B (l.flatMap va0)=true:=λB l=>bF (aA va1 l);have hkc:∀(o:Nat) (l:List vaz),(l.flatMap va0).map (aM o)=l.flatMap va0:=λo l=>aY va1 o l
  have h1:decide ((20:Int)<=(l.length:Int))=false:=by simp only[wd];((try simp only[va3] at *)<;>omega)
  have h2:decide ((20:Int)<(l.length:Int))=false:=by simp only[wd];((try simp only[va3] at *)<;>omega)
  refine J6 63 va2 ?_;refine(mO) ?_
  (repeat refine aq.seq ?_)
  refine aq.block (aq.loop (λm st=>m=0/\st=⟨[(0,.buf 0 l.length va3 c),(1,aa l.length),(2,.fn g [] []),(6,aa 20),(7,aa 0),(8,aa 20),(1000000,.ptr 0 0)],63,[.cells (l.flatMap va0)],[]⟩) 0 zH ⟨rfl,rfl⟩ (by rintro m st ⟨_,rfl⟩;rfl) ?_);rintro m st ⟨rfl,rfl⟩
  refine(az h1)<|(eN) ?_
  (try change aq _ _ _ _ _)
  refine(zC) ?_;refine zS [0] (n3 hrc hbc hkc) hins ?_;refine(zR) ?_
  (repeat refine aq.seq ?_)
  refine aq.block (aq.loop (λm st=>m=0/\st=⟨[(1,aa l.length),(6,aa 20),(1000000,.ptr 0 0)],63,[.cells ((tb (va4 cmp) l).flatMap va0)],[]⟩) 0 zH ⟨rfl,rfl⟩ (by rintro m st ⟨_,rfl⟩;rfl) ?_);rintro m st ⟨rfl,rfl⟩
  refine(az h2)<|(eN) ?_
  simp only[fG,dH,cB,bX,if_true]
  exact zP []):p:=h
open Go.Proofs renaming bH -> vaz,aF -> va0,G7 -> va4 in
open Go.Proofs.Tryz renaming func180 -> va2 in
open Go.Ev renaming q9 -> va3 in
def Iy(g:FuncId)(cmp:bH->bH->Int)(hg:∀x y,PC prog g [.ag (aF x),.ag (aF y)] (·=aa (cmp x y)))(c:Option Nat)(l:List bH)(hlen:l.length<20):
 SC prog 180 [.buf 0 l.length 14 c,aa l.length,.fn g [] []] [.cells (l.flatMap aF)] [] (λr S'=>r=.bC []/\S'=[.cells ((tb (G7 cmp) l).flatMap aF)]):=by
 have vay:=@Ky;have va1:=@dn;exact SY
def Cc(g:FuncId)(cmp:bH->bH->Int)(hg:∀x y,PC prog g [.ag (aF x),.ag (aF y)] (·=aa (cmp x y)))(c:Option Nat)(l:List bH)(hlen:l.length<20):
 SC prog 122 [.buf 0 l.length 14 c,.fn g [] []] [.cells (l.flatMap aF)] [] (λr S'=>r=.bC []/\S'=[.cells ((tb (G7 cmp) l).flatMap aF)]):=by
 have hins:=Iy g cmp hg c l hlen;have hrc:∀(g:Nat->Nat) (l:List bH),lr g (l.flatMap aF)=l.flatMap aF:=λg l=>bg (aA dn l);have hbc:∀(B:Nat) (l:List bH),gC B (l.flatMap aF)=true:=λB l=>bF (aA dn l);have hkc:∀(o:Nat) (l:List bH),(l.flatMap aF).map (aM o)=l.flatMap aF:=λo l=>aY dn o l;refine J6 9 Tryz.func122 ?_;refine(zC) ?_;refine zS [0] (n3 hrc hbc hkc) hins ?_;refine(zR) ?_;exact zP []
def DA(a:Int):PC prog 123 [aa a] (·=au false):=by
 refine pB 6 Tryz.func123 ?_;exact(zV)<|(az (show decide (a=a)=true from ut rfl))<|zo [.tmp 2]
def DB(a:List Nat):PC prog 185 [ab a] (·=au false):=by
 refine pB 6 func185 ?_;exact(zV)<|(az (show decide (a=a)=true from ut rfl))<|zo [.tmp 2]
def OV(a b:Int):Int:=if a<b then -1 else if b<a then 1 else 0
def B1(a b:Int):PC prog 80 [aa a,aa b] (·=aa (OV a b)):=by
 refine pB 20 Tryz.func80 ?_;refine(kK)<|(zK (DA a))<|(zR)<|(zC)<|(zK (DA b))<|(zR)<|(I4)<|(I4) ?_
 cases h1:decide (a<b);rotate_left
 ·exact(az h1)<|(cM)<|zo [.tmp 4] (hq:=by rw[OV,t8 (ww h1)])
 refine(az h1)<|(zN) ?_
 cases h2:decide (b<a);rotate_left
 ·exact(az h2)<|(cM)<|zo [.tmp 4] (hq:=by rw[OV,ul (wt h1),t8 (ww h2)])
 exact(az h2)<|(iY)<|zo [.tmp 4] (hq:=by rw[OV,ul (wt h1),ul (wt h2)])
def xY(a b:List Nat):Int:=if iD a b=true then -1 else if a=b then 0 else 1
def sN(a b:List Nat):PC prog 129 [ab a,ab b] (·=aa (xY a b)):=by
 refine pB 20 Tryz.func129 ?_;refine(kK)<|(zK (DB a))<|(zR)<|(zC)<|(zK (DB b))<|(zR)<|(I4)<|(I4) ?_
 cases h1:iD a b;rotate_left
 ·exact(az h1)<|(cM)<|zo [.tmp 4] (hq:=by rw[xY,t8 h1])
 refine(az h1)<|(zN) ?_
 by_cases h2:a=b
 ·exact(az (n2 h1 (show vq a b=true by rw[mS];exact ut h2)))<|(iY)<|zo [.tmp 4] (hq:=by rw[xY,ul (by rw[h1];decide),t8 h2])
 ·exact(az (n2 h1 (show vq a b=false by rw[mS];exact un h2)))<|(cM)<|zo [.tmp 4] (hq:=by rw[xY,ul (by rw[h1];decide),ul h2])
def zj(a b:bH):Int:=OV a.day b.day
def KY(a b:bH):PC prog 79 [.ag (aF a),.ag (aF b)] (·=aa (zj a b)):=by
 refine pB 10 Tryz.func79 ?_;exact(az @aF.eq_1)<|(zC)<|(zK (B1 a.day b.day))<|(zR)<|zo [.tmp 4]
def bH.wV:List AV:=[.int .i64 0,.int .i64 0,.str [],.str [],.str [],.str [],.str [],.str [],.int .i64 0,.int .i64 0,.int .i64 0,.int .i64 0,.int .i64 0,.int .i64 0]
def N6(n:Nat)(h:n<=1000000):ij prog 59 (.int .i64 (n:Int)) (.int .i64 (n:Int))=some (n,14,n,rep bH.wV n):=by
 have q1:(prog.info? 58).map (λi=>(i.size,ble i.bytes 10000))=some (14,true):=by kernel_rfl
 obtain⟨i,hi,e⟩:=Option.map_eq_some_iff.1 q1;have e1:i.size=14:=congrArg Prod.fst e;have e2:ble i.bytes 10000=true:=congrArg Prod.snd e;unfold ij;rw[show prog.underlying 59=some (.slice 58) by kernel_rfl];simp only;rw[show de (.int .i64 (n:Int))=some n from rfl,a8,a8,hi,a8,show dm prog 58=some (.agg bH.wV) by simp only[an];rfl,a8,e1,e2,eZ (ad n),eZ h];rfl
def ti:∀n,(rep bH.wV n).map SV.a=(aU n bH.zero).flatMap aF
 | 0=>rfl
 | n+1=>by rw[rep,c0,ti n,List.replicate_succ,flatMap_cons];rfl
def gK(l:List bH):List bH:=tb (G7 zj) l
def Cb(l:List bH)(hlen:l.length<20):PC prog 78 [ah 14 l aF,.fn 79 [] []] (·=ah 14 (gK l) aF):=by
 have hst:=Cc 79 zj KY (some l.length) l hlen;have hrc:∀(g:Nat->Nat) (l:List bH),lr g (l.flatMap aF)=l.flatMap aF:=λg l=>bg (aA dn l);have hbc:∀(B:Nat) (l:List bH),gC B (l.flatMap aF)=true:=λB l=>bF (aA dn l);have hkc:∀(o:Nat) (l:List bH),(l.flatMap aF).map (aM o)=l.flatMap aF:=λo l=>aY dn o l;refine pB 16 Tryz.func78 ?_;have hcl:=aL dP l
 have hzl:((aU l.length bH.zero).flatMap aF).length=l.length*14:=by rw[aL dP,cp]
 refine(zV)<|(az (n3 (N6 l.length (by omega)) @ti hkc)) ?_
 (repeat refine aq.seq ?_)
 refine aq.mono (Q:=λe st=>e=.normal/\Fg st ⟨[(1,.fn 79 [] []),(5,.buf 0 l.length 14 (some l.length))],16,[.cells (l.flatMap aF)],[]⟩) ?_ ?_
 ·by_cases h0:l.length=0
  ·have hl:l=[]:=length_eq_zero_iff.1 h0;subst hl;refine(zV) ?_;exact⟨rfl,zH⟩
  ·have htk:(l.flatMap aF).take (l.length*14)=l.flatMap aF:=c9 dP l;have hmin:Nat.min l.length l.length=l.length:=f5 _;have hdr:((aU l.length bH.zero).flatMap aF).drop (l.length*14)=[]:=bZ (by rw[hzl];exact ad _);refine(az (n10 h0 hmin htk hzl hcl @ad @LA hdr @gv @append_nil.{0})) ?_;exact⟨rfl,zH⟩
 rintro e st ⟨rfl,hfg⟩;refine aq.fg hfg ?_;clear hfg
 (try change aq _ _ _ _ _)
 have hsl:(gK l).length=l.length:=by unfold gK;exact Af _ _
 refine(zC) ?_;refine zS [0] (n3 hrc hbc hkc) hst ?_;exact(zR)<|(zV)<|zo [.tmp 4] (r:=.sl l.length 14 ((gK l).flatMap aF)) (hw:=.buf rfl (by rw[<-hsl];rw[show tb (G7 zj) l=gK l from rfl,c9 dP];exact bl.refl (aA dn _)) (by rw[show tb (G7 zj) l=gK l from rfl,aL dP,hsl];exact ad _)) (hq:=by rw[ah,hsl])
def Iw(l:List bH)(hlen:l.length<20):PC prog 42 [ah 14 l aF] (·=ah 14 (gK l) aF):=by
 refine pB 5 Tryz.func42 ?_;exact(kK)<|(zK (Cb l hlen) (hfl:=.inr (bl.refl rfl)))<|(zR)<|zo [.tmp 2] (r:=ah 14 (gK l) aF) (hw:=Wk.refl rfl)
open Go.Proofs.Tryz renaming func77 -> vaa in
open Go.Ev renaming q9 -> vab in
open Go.Proofs renaming aF -> vac in
def Bo{l:List (bH)}(p:bH->Bool){fid:FuncId}{first cap:List SV}(hlen:l.length<=1000000)(hp:∀x∈l,PC prog fid ((first++[.ag (aF x)])++cap) (·=au (p x)))(hg:cm first=true/\cm cap=true):PC prog 77 [ah 14 l aF,.fn fid first cap] (·=aa (jv p l)):=by
 have vad:=@aF.eq_1;exact zy
def xT:∀n,(rep bH.wV n).all ke=true
 | 0=>rfl
 | n+1=>by rw[rep,co,xT n];rfl
def M4{α:Type}{p:α->Bool}{l:List α}(h:jv p l ≠ -1):∃(k:Nat) (x:α),jv p l=(k:Int)/\l[k]?=some x/\p x=true/\∀(i:Nat) y,i<k->l[i]?=some y->p y=false:=by
 unfold jv at h ⊢
 cases hf:l.findIdx? p with
 | none=>rw[hf] at h;exact t7 rfl h
 | some k=>
  rw[List.findIdx?_eq_some_iff_getElem] at hf;obtain⟨hlt,h1,h2⟩:=hf;refine⟨k,l[k],rfl,ac hlt,h1,λi y hi hy=>?_⟩;have:=h2 i hi;rw[ac (by omega)] at hy;cases hy;simpa using this
def M5{α:Type}{p:α->Bool}{l:List α}(h:jv p l = -1):∀x∈l,p x=false:=by
 unfold jv at h
 cases hf:l.findIdx? p with
 | none=>
  rw[List.findIdx?_eq_none_iff] at hf;exact hf
 | some k=>rw[hf] at h;simp only at h;omega
def fp(d:bH->Bool)(l:List bH):List bH:=l.filter λx=>!d x
def Pp(d:bH->Bool)(l:List bH):(fp d l).length<=l.length:=ey _ _
def GU{d:bH->Bool}{l:List bH}(h:∀x∈l,d x=false):fp d l=l:=by
 unfold fp;rw[List.filter_eq_self];intro x hx;rw[h x hx];rfl
def CN{d:bH->Bool}{l:List bH}{j:Nat}{x:bH}(h:l[j]?=some x):fp d (l.take (j+1))=fp d (l.take j)++(if d x=true then [] else [x]):=by
 unfold fp;rw[bz h,fl];cases hd:d x<;>simp[hd]
def Kl(g:FuncId)(c2:List SV)(hg:cm c2=true)(d:bH->Bool)(hp:∀x,PC prog g [.ag (aF x),.ip c2] (·=au (d x))):
 SC prog 39 [.e0 14,.fn g [] [.ptr 0 0]] [.cells c2] [] (λr S'=>r=.e0 14/\S'=[.cells c2]):=by
 have hidx:=Bo (l:=[]) d (fid:=g) (first:=[]) (cap:=[.ip c2]) (by simp) (λx hx=>hp x) ⟨rfl,rfl⟩;rw[show jv d [] = -1 from rfl] at hidx
 refine J6 42 func39 ?_;refine(kK)<|(zK hidx (hwk:=.cons (.VB 14) (.cons (.fn .nil (.cons (.ptr rfl (bl.refl hg) (ck _)) .nil)) .nil)))<|(zR)<|(xS)<|(zV)<|(zE) ?_;exact Of.of (rs:=[.tmp 4]) rfl rfl zl WW zd zg
def Km(g:FuncId)(c2:List SV)(hg:cm c2=true)(d:bH->Bool)(hp:∀x,PC prog g [.ag (aF x),.ip c2] (·=au (d x)))(l:List bH)(hlen:l.length<=100000):
 SC prog 39 [.buf 0 l.length 14 none,.fn g [] [.ptr 1 0]] [.cells (l.flatMap aF),.cells c2] [] (λr S'=>r=.buf 0 (fp d l).length 14 none/\S'=[.cells ((fp d l++aU (l.length-(fp d l).length) bH.zero).flatMap aF),.cells c2]):=by
 have hidx:=Bo (l:=l) d (fid:=g) (first:=[]) (cap:=[.ip c2]) (by omega) (λx hx=>hp x) ⟨rfl,rfl⟩;have hkc:∀(o:Nat) (l:List bH),(l.flatMap aF).map (aM o)=l.flatMap aF:=λo l=>aY dn o l;have hk2:∀o:Nat,c2.map (aM o)=c2:=λo=>bL hg
 refine UZ 42 func39 ?_;refine(kK)<|(zK hidx (hwk:=.cons (.buf rfl (by rw[c9 dP];exact bl.refl (aA dn l)) (by rw[aL dP];exact ad _)) (.cons (.fn .nil (.cons (.ptr rfl (bl.refl hg) (ck _)) .nil)) .nil)))<|(zR) ?_
 by_cases hno:jv d l = -1
 ·have hall:=M5 hno;rw[hno]
  refine(xS)<|(zV)<|(zE) ?_;exact zP [.tmp 4] (hq:=by (try simp only[df,aX]);first | done | (rw[GU hall,d4,d0,append_nil];first | exact⟨rfl,rfl⟩ | exact⟨trivial,rfl⟩ | exact⟨rfl,trivial⟩ | exact⟨trivial,trivial⟩))
 obtain⟨k,x0,hk,hx0,hd0,hbef⟩:=M4 hno;rw[hk];have hkl:k<l.length:=bf hx0
 refine(az (show decide ((k:Int) = -1)=false by simp only[wd];omega))<|(zN)<|(zs) ?_;refine aq.r0 (by rfl) (iZ (bA (k:Int) 1 (by omega))) ?_
 have hst:fp d (l.take (k+1))=l.take k:=by
  rw[CN hx0,t8 hd0,append_nil];refine GU λx hx=>?_;obtain⟨i,hi⟩:=List.mem_iff_getElem?.1 hx
  have hik:i<k:=by
   have:=bf hi;rw[al] at this;omega
  rw[fm,t8 hik] at hi;exact hbef i x hik hi
 (repeat refine aq.seq ?_)
 refine aq.block (aq.loop (λm st=>∃(j i:Nat) (q:List bH),(i<j/\j<=l.length/\q.length=l.length)/\(q.take i=fp d (l.take j)/\q.drop j=l.drop j)/\l.length-j=m/\st=⟨[(0,.buf 0 l.length 14 none),(1,.fn g [] [.ptr 1 0]),(5,cD i),(6,cD j),(1000000,.ptr 0 0),(1000001,.ptr 1 0)],42,[.cells (q.flatMap aF),.cells c2],[]⟩) (l.length-(k+1)) (bK @dI) ⟨k+1,k,l,⟨dk _,hkl,rfl⟩,⟨hst.symm,rfl⟩,rfl,rfl⟩ (by rintro m st ⟨j,i,q,_,_,_,rfl⟩;rfl) ?_);rintro m st ⟨j,i,q,⟨hij,hjl,hql⟩,⟨htk,hdr⟩,rfl,rfl⟩
 have hcl:(q.flatMap aF).length=l.length*14:=by rw[aL dP,hql]
 refine(zV) ?_;by_cases hlt:j<l.length;rotate_left
 ·rw[show decide ((j:Int)<(l.length:Int))=false by simp only[wd];omega]
  obtain rfl:j=l.length:=by omega
  rw[bs] at htk;refine(eN) ?_
  have hkl2:(fp d l).length=i:=by rw[<-htk,al];omega
  have hrest:(q.flatMap aF).take (i*14)++((rep bH.wV (l.length-i)).map SV.a++(q.flatMap aF).drop (i*14+(l.length-i)*14))=(fp d l++aU (l.length-(fp d l).length) bH.zero).flatMap aF:=by
   rw[hkl2,ti,ju dP,htk,bZ (by rw[hcl];omega),append_nil,be]
  refine(zs) ?_;refine aq.r0 (by rfl) (by simp only[bI,bj,ah,an,a8,cj,↓reduceIte,af,bv,b7,a7,b6,ae,ai,aN,vD (show i<=l.length by omega),show ¬(l.length-i=0) by omega,show i*14+(l.length-i)*14<=l.length*14 by omega,hcl,show(rep [AV.int IntKind.i64 0,.int .i64 0,.str [],.str [],.str [],.str [],.str [],.str [],.int .i64 0,.int .i64 0,.int .i64 0,.int .i64 0,.int .i64 0,.int .i64 0] (l.length-i))=rep bH.wV (l.length-i) from rfl,xT,hrest];first | done | rfl) ?_;refine(zs) ?_;refine aq.r0 (by rfl) (iZ (n2 (I2 (show i<=l.length by omega)) @ct)) ?_;refine(zE) ?_;exact Of.of (rs:=[.tmp 4]) rfl rfl zl (by (try simp only[df,aX]);first | done | (rw[hkl2];first | exact⟨rfl,rfl⟩ | exact⟨trivial,rfl⟩ | exact⟨rfl,trivial⟩ | exact⟨trivial,trivial⟩)) zd zg
 rw[show decide ((j:Int)<(l.length:Int))=true by simp only[wp];omega];obtain⟨x,hx⟩:∃x,l[j]?=some x:=⟨l[j],ac hlt⟩
 have hqx:q[j]?=some x:=by
  have:(q.drop j)[0]?=(l.drop j)[0]?:=by rw[hdr]
  rw[ce,ce,e3] at this;rw[this,hx]
 have hdr2:q.drop (j+1)=l.drop (j+1):=by
  have:=congrArg (List.drop 1) hdr;rw[d6,d6] at this;exact this
 have hsn:=CN (d:=d) hx;have ax:((q.flatMap aF).drop (j*14)).take 14=aF x:=aH (e:=14) (enc:=aF) (λ_=>rfl) hqx;rw[dW] at ax;have hpx:=hp x;rw[dW] at hpx
 refine(gh)<|(az (n6 hlt hcl (show j*14+14<=l.length*14 by omega) ax hkc hk2))<|(zC)<|(zK hpx (hwk:=.cons (.ag (bl.refl rfl)) (.cons (.ptr rfl (bl.refl hg) (ck _)) .nil))) ?_
 cases hd:d x
 ·have hil:i<q.length:=by omega
  have s1:=kS (enc:=aF) dP (l:=q) (i:=i) x hil;rw[dW] at s1;simp only[cons_append,nil_append] at s1;rw[hd,ul (by decide)] at hsn
  refine(zR)<|(zY)<|(az (n4 (show i<l.length by omega) hcl (show i*14+14<=l.length*14 by omega) s1))<|(zs) ?_;refine aq.r0 (by rfl) (iZ (bA (i:Int) 1 (by omega))) ?_;refine(zs) ?_;refine aq.r0 (by rfl) (iZ (bA (j:Int) 1 (by omega))) ?_;refine⟨l.length-(j+1),_,by omega,(bK @dI),j+1,i+1,q.set i x,⟨by omega,by omega,by rw[bi,hql]⟩,⟨?_,?_⟩,rfl,rfl⟩
  ·rw[hsn,<-htk,b5,t8 hil,em,al,aS (by omega),dt,f4 (by omega),show i+1-i=1 by omega];rfl
  ·rw[go,t8 (by omega)];exact hdr2
 ·rw[hd,t8 rfl,append_nil] at hsn
  refine(zR)<|(zN)<|(zs) ?_;refine aq.r0 (by rfl) (iZ (bA (j:Int) 1 (by omega))) ?_;exact⟨l.length-(j+1),_,by omega,(bK @dI),j+1,i,q,⟨by omega,by omega,hql⟩,⟨by rw[hsn,htk],hdr2⟩,rfl,rfl⟩
def Ku{i j:Nat}(h:i+j<=1000000):mR prog 3 209 (.int .i64 ((i:Int)+(j:Int)))=some (.int .u64 ((i+j:Nat):Int)):=by
 unfold mR;rw[show prog.underlying 3=some (.int .i64) by kernel_rfl,show prog.underlying 209=some (.int .u64) by kernel_rfl]
 have:dO .u64 ((i:Int)+(j:Int))=((i+j:Nat):Int):=by rw[iB];simp[IntKind.wrap,IntKind.bits,IntKind.signed];omega
 simp only[this]
def Kv{s:Nat}:cS prog .shr 209 (.int .u64 (s:Int)) (.int .u64 1)=some (.int .u64 ((s/2:Nat):Int)):=by
 have:((s:Int)).fdiv 2=((s/2:Nat):Int):=by
  rw[Int.fdiv_eq_ediv_of_nonneg _ (by decide)];omega
 show some (AV.int .u64 (((s:Int)).fdiv 2))=_;rw[this]
def Kw{s:Nat}(h:s<=1000000):mR prog 209 3 (.int .u64 (s:Int))=some (.int .i64 (s:Int)):=by
 unfold mR;rw[show prog.underlying 3=some (.int .i64) by kernel_rfl,show prog.underlying 209=some (.int .u64) by kernel_rfl]
 have:dO .i64 (s:Int)=(s:Int):=by rw[iB];simp[IntKind.wrap,IntKind.bits,IntKind.signed];omega
 simp only[this]
def dZ(p:aI):ak p=[ab p.name,ab p.kind,ab p.bG,ab p.slot,aa p.made,aa p.since,au p.eP,ah 2 p.props aZ,aa p.l1,aa p.l2,aa p.l3,aa p.l4,aa p.l5,aa p.l6]:=rfl
def pS(p:cA):aZ p=[ab p.key,ab p.value]:=rfl
def o7(l:List aI)(k:List Nat)(pos:Nat):Bool:=match l[pos]? with
 | some x=>decide (aI.name x=k)
 | none=>false
structure Ce (l:List aI) (k:List Nat) (pos:Nat):Prop where
 le:pos<=l.length
 fK:∀(a:Nat) (x:aI),l[a]?=some x->(iD (aI.name x) k=true↔a<pos)
def SS{p:Prop} (h:p:=by
  obtain⟨hpos,hpt⟩:=hpart
  refine pB 49 vah ?_;refine(mO)<|(zV) ?_
  (repeat refine aq.seq ?_)
  refine aq.block (aq.loop (λm st=>∃i j:Nat,(i<=pos/\pos<=j/\j<=l.length)/\j-i=m/\st=⟨[(0,ah vai l vaj),(1,ab k),(2,.fn g [] cap),(8,cD l.length),(9,cD i),(10,cD j)],49,[],[]⟩) l.length zH ⟨0,l.length,⟨Nat.zero_le _,hpos,Nat.le_refl _⟩,Nat.sub_zero _,rfl⟩ (by rintro m st ⟨i,j,_,_,rfl⟩;rfl) ?_);rintro m st ⟨i,j,⟨hip,hpj,hjl⟩,rfl,rfl⟩;refine(zV) ?_;by_cases hij:i<j;rotate_left
  ·rw[show decide ((i:Int)<(j:Int))=false by simp only[wd];((try simp only[vai] at *)<;>omega)];refine(eN) ?_
   obtain rfl:i=pos:=by ((try simp only[vai] at *)<;>omega)
   by_cases hil:i<l.length
   ·obtain⟨x,hx⟩:∃x,l[i]?=some x:=⟨l[i],List.getElem?_eq_getElem hil⟩
    have hl:iD (vak x) k=false:=by
     cases h:iD (vak x) k with
     | false=>rfl
     | true=>exact t7 ((hpt i x hx).1 h) (Nat.lt_irrefl _)
    have ax:((l.flatMap vaj).drop (i*vai)).take vai=vaj x:=aH (e:=vai) (enc:=vaj) (λ_=>rfl) hx;simp only[vai] at ax;have hpx:=hp x (List.mem_of_getElem? hx)
    have hfd:vam l k i=decide (vak x=k):=by unfold vam;rw[hx]
    have hc0:decide (xY (vak x) k=0)=decide (vak x=k):=by
     unfold xY;rw[hl,ul (by decide)];by_cases e:vak x=k
     ·rw[t8 e,ut e];rfl
     ·rw[ul e,un e];rfl
    rw[van] at ax hpx
    exact(iC (n3 (show decide ((i:Int)<(l.length:Int))=true by simp only[wp];((try simp only[vai] at *)<;>omega)) hil ax))<|(zK hpx (hwk:=bl.refl (mX rfl hcap)))<|(cK hc0)<|iP [.tmp 6,.tmp 7] (hq:=by rw[hfd])
   ·have hfd:vam l k i=false:=by unfold vam;rw[List.getElem?_eq_none (by ((try simp only[vai] at *)<;>omega))]
    exact(az (show decide ((i:Int)<(l.length:Int))=false by simp only[wd];((try simp only[vai] at *)<;>omega)))<|iP [.tmp 6,.tmp 7] (hq:=by rw[hfd])
  rw[show decide ((i:Int)<(j:Int))=true by simp only[wp];((try simp only[vai] at *)<;>omega)];obtain⟨h,hh⟩:∃h,h=(i+j)/2:=⟨_,rfl⟩
  have hl2:h<l.length:=by ((try simp only[vai] at *)<;>omega)
  obtain⟨x,hx⟩:∃x,l[h]?=some x:=⟨l[h],List.getElem?_eq_getElem hl2⟩;have ax:((l.flatMap vaj).drop (h*vai)).take vai=vaj x:=aH (e:=vai) (enc:=vaj) (λ_=>rfl) hx;simp only[vai] at ax;have hpx:=hp x (List.mem_of_getElem? hx);have hpth:=hpt h x hx;rw[van] at ax hpx
  refine(gh)<|(zs) ?_;refine aq.r0 (by rfl) (iZ (n4 (bA (i:Int) (j:Int) (by ((try simp only[vai] at *)<;>omega))) (Ku (show i+j<=1000000 by ((try simp only[vai] at *)<;>omega))) @Kv (Kw (show(i+j)/2<=1000000 by ((try simp only[vai] at *)<;>omega))))) ?_
  rw[<-hh]
  refine(iC (n2 hl2 ax))<|(zK hpx (hwk:=bl.refl (mX rfl hcap))) ?_
  have hc:decide (xY (vak x) k<0)=iD (vak x) k:=by
   unfold xY;cases h:iD (vak x) k
   ·rw[ul (by decide)];split<;>rfl
   ·rw[t8 rfl];rfl
  cases hlt:iD (vak x) k
  ·have hge:pos<=h:=by
    rcases Nat.lt_or_ge h pos with hq | hq
    ·have:=hpth.2 hq;rw[hlt] at this;cases this
    ·exact hq
   refine(cK (n2 hc hlt))<|(iY) ?_;exact⟨h-i,_,by ((try simp only[vai] at *)<;>omega),zH,i,h,⟨hip,hge,by ((try simp only[vai] at *)<;>omega)⟩,rfl,rfl⟩
  ·have hgt:h<pos:=hpth.1 hlt
   refine(cK (n2 hc hlt))<|(zY)<|(zs) ?_;refine aq.r0 (by rfl) (iZ (bA (h:Int) 1 (by ((try simp only[vai] at *)<;>omega)))) ?_;exact⟨j-(h+1),_,by ((try simp only[vai] at *)<;>omega),(Fg.less (Ue @dI) (Uf @dI)),h+1,j,⟨by ((try simp only[vai] at *)<;>omega),hpj,hjl⟩,rfl,rfl⟩):p:=h
open Go.Proofs.Tryz renaming func127 -> vah in
open Go.Ev renaming q9 -> vai in
open Go.Proofs renaming ak -> vaj,o7 -> vam in
open Go.Proofs.aI renaming name -> vak in
def HZ(l:List aI)(hlen:l.length<=100000){g:FuncId}{cap:List SV}(hcap:cm cap=true)(k:List Nat)(pos:Nat)(hp:∀x∈l,PC prog g ([.ag (ak x),ab k]++cap) (·=aa (xY (aI.name x) k)))(hpart:Ce l k pos):
 PC prog 127 [ah 14 l ak,ab k,.fn g [] cap] (·=.bC [cD pos,au (o7 l k pos)]):=by
 have van:=@dZ;exact SS
def rQ(l:List cA)(k:List Nat)(pos:Nat):Bool:=match l[pos]? with
 | some x=>decide (cA.key x=k)
 | none=>false
structure Cf (l:List cA) (k:List Nat) (pos:Nat):Prop where
 le:pos<=l.length
 fK:∀(a:Nat) (x:cA),l[a]?=some x->(iD (cA.key x) k=true↔a<pos)
open Go.Proofs.Tryz renaming func135 -> vah in
open Go.Ev renaming Hj -> vai in
open Go.Proofs renaming aZ -> vaj,rQ -> vam in
open Go.Proofs.cA renaming key -> vak in
def H0(l:List cA)(hlen:l.length<=100000){g:FuncId}{cap:List SV}(hcap:cm cap=true)(k:List Nat)(pos:Nat)(hp:∀x∈l,PC prog g ([.ag (aZ x),ab k]++cap) (·=aa (xY (cA.key x) k)))(hpart:Cf l k pos):
 PC prog 135 [ah 2 l aZ,ab k,.fn g [] cap] (·=.bC [cD pos,au (rQ l k pos)]):=by
 have van:=@pS;exact SS
open Go.Ev Go.Lib
def L6(Z:List AV):∀m,(rep Z m).length=m*Z.length
 | 0=>by rw[rep,length_nil,cn]
 | m+1=>by rw[rep,length_append,L6 Z m,d5,eC]
def HF{Z:List AV}(hZ:Z.all ke=true):∀m,(rep Z m).all ke=true
 | 0=>rfl
 | m+1=>by rw[rep,co,hZ,HF hZ m];rfl
def Ha:∀{l:List AV},l.all ke=true->(l.map SV.a).all ef=true
 | [],_=>rfl
 | a::l,h=>by
  rw[fu,bx] at h;rw[d3,fu,Ha h.2,Bool.and_true];exact h.1
def G9(o:Nat):∀l:List AV,(l.map SV.a).map (aM o)=l.map SV.a
 | []=>rfl
 | a::l=>by rw[d3,d3,G9 o l];rfl
def Fw:DX prog 186:=by
 intro w a b la ca lb cb tA tB kA kB h1 h2 h3 h4 h5 h6
 rw[run_callFunc_extern Tryz.func186 (by kernel_rfl) (by kernel_rfl) (by kernel_rfl) (e:=Extern.SlicesOverlaps.overlaps #[74,74] #[4]) (by kernel_rfl),
  Lib.run_overlaps_apart w 74 4 73 (by kernel_rfl) 14 (λw=>bW (by kernel_rfl)) a b la ca lb cb h1 tA tB kA kB h2 h3 h4 h5 h6]
 rfl
def B4(x:aI):SC prog 130 [.e0 14,cD 0,.buf 0 1 14 (some 1)] [.cells (ak x)] [0] (λr S'=>r=ah 14 [x] ak/\S'=[.gone]):=by
 refine J6 95 Tryz.func130 ?_;have hkc:=λo:Nat=>bL (o:=o) (dS x);have hon:(ak x).all ef=true:=rfl;rw[dZ] at hkc hon ⊢
 refine(mO)<|(mO)<|(iY)<|(xS)<|(az (n2 hkc hon)) ?_;refine aq.fg (st':=⟨[(6,.buf 1 1 14 none)],95,[.gone,.cells (ak x)],[]⟩) (bK @dZ) ?_;refine aq.fg (Fg.freeze (f':=[(6,ah 14 [x] ak)]) 1 rfl (λh=>by cases h) ⟨.inr (.buf rfl (by rw[flatMap_cons,flatMap_nil,append_nil];exact bl.refl (dS x)) (by show 1*14<=14;decide)),trivial⟩) ?_;refine aq.fg (st':=⟨[(6,ah 14 [x] ak)],95,[.gone],[]⟩) zH ?_;refine(zE) ?_;exact zP [.tmp 6]
def SU{p:Prop} (h:p:=by
  have hf:∀l:List vao,(l.flatMap vap).length=l.length*vaq:=aL (enc:=vap) (e:=vaq) (λ_=>rfl);simp only[vaq] at hf
  have h1:((l.flatMap vap++A).take ((i+1)*vaq)).length=(i+1)*vaq:=by
   rw[List.length_take,List.length_append,hf];((try simp only[vaq] at *)<;>omega)
  simp only[vaq] at h1
  have h2:((l.flatMap vap++A).take ((i+1)*vaq)).take (i*vaq)=(l.take i).flatMap vap:=by
   rw[List.take_take,Nat.min_eq_left (by ((try simp only[vaq] at *)<;>omega)),List.take_append_of_le_length (by rw[hf];((try simp only[vaq] at *)<;>omega)),ju (enc:=vap) (e:=vaq) (λ_=>rfl)]
  simp only[vaq] at h2;generalize hB:(l.flatMap vap++A).take ((i+1)*vaq)=B at h1 h2 ⊢;generalize (l.flatMap vap++A).drop ((i+1)*vaq+(l.length-i)*vaq)=R
  have e1:(B++((l.drop i).flatMap vap++R)).take (i*vaq)=(l.take i).flatMap vap:=by rw[List.take_append_of_le_length (by rw[h1];((try simp only[vaq] at *)<;>omega)),h2]
  simp only[vaq] at e1
  have e2:(B++((l.drop i).flatMap vap++R)).drop (i*vaq+vaq)=(l.drop i).flatMap vap++R:=by rw[List.drop_append_of_le_length (by rw[h1];((try simp only[vaq] at *)<;>omega)),List.drop_of_length_le (by rw[h1];((try simp only[vaq] at *)<;>omega)),List.nil_append]
  simp only[vaq] at e2;rw[e1,e2]
  have h3:((l.take i).flatMap vap++(vap x++(l.drop i).flatMap vap)).length=(l.length+1)*vaq:=by
   rw[List.length_append,List.length_append,hf,hf,show(vap x).length=vaq from rfl,List.length_take,List.length_drop,Nat.min_eq_left (by ((try simp only[vaq] at *)<;>omega))];((try simp only[vaq] at *)<;>omega)
  simp only[vaq] at h3
  rw[<-List.append_assoc (vap x),<-List.append_assoc,List.take_append_of_le_length (by rw[h3];exact Nat.le_refl _),List.take_of_length_le (by rw[h3];exact Nat.le_refl _),List.flatMap_append,List.flatMap_cons]):p:=h
open Go.Proofs renaming aI -> vao,ak -> vap in
open Go.Ev renaming q9 -> vaq in
def Rp(l:List aI)(i:Nat)(x:aI)(hi:i<l.length)(A:List SV):
 (((l.flatMap ak++A).take ((i+1)*14)++((l.drop i).flatMap ak++(l.flatMap ak++A).drop ((i+1)*14+(l.length-i)*14))).take (i*14)++(ak x++((l.flatMap ak++A).take ((i+1)*14)++((l.drop i).flatMap ak++(l.flatMap ak++A).drop ((i+1)*14+(l.length-i)*14))).drop (i*14+14))).take ((l.length+1)*14)=(l.take i++x::l.drop i).flatMap ak:=by
 exact SU
abbrev Wp:List AV:=[.str [],.str [],.str [],.str [],.int .i64 0,.int .i64 0,.bool false,.slice none 0 0 (some 0),.int .i64 0,.int .i64 0,.int .i64 0,.int .i64 0,.int .i64 0,.int .i64 0]
abbrev Wq:List AV:=[.str [],.str []]
def SZ{p:Prop} (h:p:=by
  refine UZ 95 va5 ?_;have hkl:=λo:Nat=>aY (enc:=va6) va7 o l;have hkc:=λo:Nat=>bL (o:=o) (va7 x);have hon:(va6 x).all ef=true:=rfl;have hxl:(va6 x).length=va8:=rfl;simp only[va8] at hxl;have hxt:(va6 x).take va8=va6 x:=rfl;simp only[va8] at hxt;have hcl:(l.flatMap va6).length=l.length*va8:=aL (enc:=va6) (e:=va8) (λ_=>rfl) l;simp only[va8] at hcl;have htl:(l.flatMap va6).take (l.length*va8)=l.flatMap va6:=List.take_of_length_le (by rw[hcl];exact Nat.le_refl _);simp only[va8] at htl;have hc1:((1:Nat):Int)=1:=rfl
  refine(zV)<|(az (DZ hi))<|(az hc1)<|(az hc1)<|(iY) ?_
  by_cases hin:i=l.length
  ·subst hin
   refine(az (show decide ((l.length:Int)=(l.length:Int))=true by simp))<|(zY) ?_
   have hka:∀o:Nat,(l.flatMap va6++va6 x).map (aM o)=l.flatMap va6++va6 x:=λo=>by rw[List.map_append,hkl,hkc]
   refine(az (n9 hkc hon hxl hxt hcl htl hka @Nat.le_refl (show l.length<=1000000 by ((try simp only[va8] at *)<;>omega)))) ?_;refine aq.fg (st':=⟨[(6,.buf 0 (l.length+1) va8 none)],95,[.cells (l.flatMap va6++va6 x),.gone],[]⟩) zH ?_
   have hq:l.flatMap va6++va6 x=(l.take l.length++x::l.drop l.length).flatMap va6:=by rw[List.take_length,List.drop_length,List.flatMap_append,List.flatMap_cons,List.flatMap_nil,List.append_nil]
   have hqn:(l.take l.length++x::l.drop l.length).length=l.length+1:=by rw[List.take_length,List.drop_length,List.length_append,List.length_cons,List.length_nil]
   rw[hq];refine aq.fg (Fg.freeze (f':=[(6,ah va8 (l.take l.length++x::l.drop l.length) va6)]) 0 rfl (λh=>by cases h) ⟨.inr (by rw[ny,hqn];exact .buf rfl (by rw[<-hqn,c9 (enc:=va6) (e:=va8) (λ_=>rfl)];exact bl.refl (aA va7 _)) (by rw[aL (enc:=va6) (e:=va8) (λ_=>rfl),hqn];exact Nat.le_refl _)),trivial⟩) ?_;refine(zE) ?_;exact zP [.tmp 6]
  have hlt:i<l.length:=by ((try simp only[va8] at *)<;>omega)
  refine(az (show decide ((i:Int)=(l.length:Int))=false by simp only[wd];((try simp only[va8] at *)<;>omega)))<|(zN) ?_;refine aq.J4 0 (by decide) rfl rfl ?_
  intro cap hcap;obtain⟨A,hA⟩:∃A,A=List.replicate (cap*va8-(l.flatMap va6).length) SV.any:=⟨_,rfl⟩;rw[<-hA]
  have hAl:A.length=cap*va8-l.length*va8:=by rw[hA,List.length_replicate,hcl]
  simp only[va8] at hAl;by_cases hroom:cap<l.length+1
  ·obtain rfl:cap=l.length:=by ((try simp only[va8] at *)<;>omega)
   obtain rfl:A=[]:=List.length_eq_zero_iff.1 (by rw[hAl];((try simp only[va8] at *)<;>omega));rw[List.append_nil];clear hA hAl
   refine(az (n3 hc1 (qA (show -9223372036854775808<=(l.length:Int)+1/\(l.length:Int)+1<=9223372036854775807 from⟨by ((try simp only[va8] at *)<;>omega),by ((try simp only[va8] at *)<;>omega)⟩)) (show decide ((l.length:Int)<(l.length:Int)+1)=true by simp only[wp];((try simp only[va8] at *)<;>omega))))<|(zY) ?_
   obtain⟨m,hm⟩:∃m,m=l.length+1-i:=⟨_,rfl⟩;obtain⟨R,hR⟩:∃R,R=(rep va9 m).map SV.a:=⟨_,rfl⟩
   have hRl:R.length=m*va8:=by rw[hR,List.length_map,L6];rfl
   simp only[va8] at hRl
   have hRo:R.all ef=true:=by rw[hR];exact Ha (HF rfl m)
   have hRk:∀o:Nat,R.map (aM o)=R:=λo=>by rw[hR];exact G9 o _
   obtain⟨c1,hc1e⟩:∃c1,c1=(l.flatMap va6).take (i*va8)++R:=⟨_,rfl⟩
   have hc1l:c1.length=(l.length+1)*va8:=by rw[hc1e,List.length_append,List.length_take,hcl,hRl,Nat.min_eq_left (by ((try simp only[va8] at *)<;>omega)),hm];((try simp only[va8] at *)<;>omega)
   simp only[va8] at hc1l
   have hc1k:∀o:Nat,c1.map (aM o)=c1:=λo=>by rw[hc1e,List.map_append,hRk,List.map_take,hkl]
   refine(az (n2 (n9 hc1 (I2 hi) (qA (show -9223372036854775808<=(l.length:Int)+1/\(l.length:Int)+1<=9223372036854775807 from⟨by ((try simp only[va8] at *)<;>omega),by ((try simp only[va8] at *)<;>omega)⟩)) (QV (show -9223372036854775808<=(l.length:Int)+1-(i:Int)/\(l.length:Int)+1-(i:Int)<=9223372036854775807 from⟨by ((try simp only[va8] at *)<;>omega),by ((try simp only[va8] at *)<;>omega)⟩)) (show((l.length:Int)+1-(i:Int))=(m:Int) by ((try simp only[va8] at *)<;>omega)) (Eq.symm hR) hRo @Nat.sub_zero (show m<=1000000 by ((try simp only[va8] at *)<;>omega))) (n10 (show ¬m=0 by ((try simp only[va8] at *)<;>omega)) (show i<=1000000 by ((try simp only[va8] at *)<;>omega)) hcl (show i*va8<=l.length*va8 by ((try simp only[va8] at *)<;>omega)) (show l.length<l.length+1 by ((try simp only[va8] at *)<;>omega)) (show i+m=l.length+1 by ((try simp only[va8] at *)<;>omega)) (Eq.symm hc1e) hc1k hkl hkc))) ?_;obtain⟨c2,hc2e⟩:∃c2,c2=c1.take (i*va8)++(va6 x++c1.drop (i*va8+va8)):=⟨_,rfl⟩
   have hc2l:c2.length=(l.length+1)*va8:=by rw[hc2e,List.length_append,List.length_append,List.length_take,List.length_drop,hc1l,hxl];((try simp only[va8] at *)<;>omega)
   simp only[va8] at hc2l;refine(az (n8 (DZ (show i<=l.length+1 by ((try simp only[va8] at *)<;>omega))) hxl hxt (show Nat.min 1 (l.length+1-i)=1 by simp only[Nat.min_def];rw[t8 (by ((try simp only[va8] at *)<;>omega))]) hc1l (show i*va8+va8<=(l.length+1)*va8 by ((try simp only[va8] at *)<;>omega)) hon (Eq.symm hc2e))) ?_
   have hdr:((l.flatMap va6).drop (i*va8)).take ((l.length-i)*va8)=(l.drop i).flatMap va6:=by
    rw[mW (enc:=va6) (e:=va8) (λ_=>rfl),List.take_of_length_le];rw[aL (enc:=va6) (e:=va8) (λ_=>rfl),List.length_drop];exact Nat.le_refl _
   simp only[va8] at hdr
   have hdl:((l.drop i).flatMap va6).length=(l.length-i)*va8:=by rw[aL (enc:=va6) (e:=va8) (λ_=>rfl),List.length_drop]
   simp only[va8] at hdl;have hdt:((l.drop i).flatMap va6).take ((l.length-i)*va8)=(l.drop i).flatMap va6:=List.take_of_length_le (by rw[hdl];exact Nat.le_refl _);simp only[va8] at hdt;have hdo:((l.drop i).flatMap va6).all ef=true:=vba (l.drop i);obtain⟨c3,hc3e⟩:∃c3,c3=c2.take ((i+1)*va8)++((l.drop i).flatMap va6++c2.drop ((i+1)*va8+(l.length-i)*va8)):=⟨_,rfl⟩
   have hfin:c3=(l.take i++x::l.drop i).flatMap va6:=by
    have e0:c1.take (i*va8)=(l.take i).flatMap va6:=by
     rw[hc1e,List.take_append_of_le_length (by rw[List.length_take,hcl];((try simp only[va8] at *)<;>omega)),List.take_take,Nat.min_self,ju (enc:=va6) (e:=va8) (λ_=>rfl)]
    simp only[va8] at e0
    have e1:((l.take i).flatMap va6++va6 x).length=(i+1)*va8:=by
     rw[List.length_append,aL (enc:=va6) (e:=va8) (λ_=>rfl),hxl,List.length_take,Nat.min_eq_left hi];((try simp only[va8] at *)<;>omega)
    simp only[va8] at e1;rw[hc3e,show c2.drop ((i+1)*va8+(l.length-i)*va8)=[] from List.drop_of_length_le (by rw[hc2l];((try simp only[va8] at *)<;>omega)),List.append_nil,hc2e,e0,<-List.append_assoc,List.take_append_of_le_length (by rw[e1];exact Nat.le_refl _),List.take_of_length_le (by rw[e1];exact Nat.le_refl _),List.flatMap_append,List.flatMap_cons,List.append_assoc]
   refine(zs) ?_;refine nQ [0,0,0,6,15,0,0,96,255] ?_
   (repeat (first | refine SD.r (by rfl) rfl (by rfl) (by rfl) (iZ (n4 (bA (i:Int) 1 (by ((try simp only[va8] at *)<;>omega))) (q7) (DZ (show i+1<=l.length+1 by ((try simp only[va8] at *)<;>omega))) (DZ hi))) ?_ | refine SD.s (by rfl) rfl (by rfl) (by rfl) ?_ | fail))
   refine SD.ed (by rfl) rfl (by rfl) rfl rfl (by rfl) (iZ (n2 (n9 hcl hc2l (show i*va8+(l.length-i)*va8<=l.length*va8 by ((try simp only[va8] at *)<;>omega)) (show Nat.min (l.length-i) (l.length+1-(i+1))=l.length-i by simp only[Nat.min_def];split<;>((try simp only[va8] at *)<;>omega)) (show ¬(l.length-i=0) by ((try simp only[va8] at *)<;>omega)) (show(i+1)*va8+(l.length-i)*va8<=(l.length+1)*va8 by ((try simp only[va8] at *)<;>omega)) hdr hdl hdt) (n3 hdo @Nat.le_refl (Eq.symm hc3e)))) ?_;refine(zM)<|(zV) ?_
   have hqn:(l.take i++x::l.drop i).length=l.length+1:=by rw[List.length_append,List.length_cons,List.length_take,List.length_drop,Nat.min_eq_left hi];((try simp only[va8] at *)<;>omega)
   rw[hfin];refine aq.fg (st':=⟨[(6,.buf 2 (l.length+1) va8 none)],95,[.gone,.gone,.cells ((l.take i++x::l.drop i).flatMap va6)],[]⟩) zH ?_;refine aq.fg (Fg.freeze (f':=[(6,ah va8 (l.take i++x::l.drop i) va6)]) 2 rfl (λh=>by cases h) ⟨.inr (by rw[ny,hqn];exact .buf rfl (by rw[<-hqn,c9 (enc:=va6) (e:=va8) (λ_=>rfl)];exact bl.refl (aA va7 _)) (by rw[aL (enc:=va6) (e:=va8) (λ_=>rfl),hqn];exact Nat.le_refl _)),trivial⟩) ?_;refine aq.fg (st':=⟨[(6,ah va8 (l.take i++x::l.drop i) va6)],95,[.gone,.gone],[]⟩) zH ?_;refine(zE) ?_;exact zP [.tmp 6]
  have hcap2:l.length+1<=cap:=by ((try simp only[va8] at *)<;>omega)
  have hXl:(l.flatMap va6++A).length=cap*va8:=by rw[List.length_append,hcl,hAl];((try simp only[va8] at *)<;>omega)
  simp only[va8] at hXl;have hnn:(-9223372036854775808:Int)<=(l.length:Int)+1/\(l.length:Int)+1<=9223372036854775807:=⟨by ((try simp only[va8] at *)<;>omega),by ((try simp only[va8] at *)<;>omega)⟩
  refine(az (n3 hc1 (qA hnn) (show decide ((cap:Int)<(l.length:Int)+1)=false by simp only[wd];((try simp only[va8] at *)<;>omega))))<|(zN) ?_
  have hbt:cV l.length (some cap) none (some (.int .i64 ((l.length+1:Nat):Int))) none=some (0,l.length+1,some cap):=by
   unfold cV pa qo;simp only[lJ,Option.bind_some,eZ hcap2,Bool.or_true,ae]
  refine(zs) ?_;refine aq.r0 (by rfl) (iZ (n4 hc1 (qA hnn) (q7) hbt)) ?_;have hii:(-9223372036854775808:Int)<=(i:Int)+1/\(i:Int)+1<=9223372036854775807:=⟨by ((try simp only[va8] at *)<;>omega),by ((try simp only[va8] at *)<;>omega)⟩
  refine(zs) ?_;refine aq.Se (by rfl) (iZ (n5 hc1 (qA hii) (q7) (DZ (show i+1<=l.length+1 by ((try simp only[va8] at *)<;>omega))) @Nat.sub_zero)) ?_;refine aG.WC vbb (by rfl) rfl rfl (by rfl) rfl zc rfl rfl rfl rfl (by decide) (by decide) (by ((try simp only[va8] at *)<;>omega)) (by rw[hXl];((try simp only[va8] at *)<;>omega)) ?_;refine(zR)<|(zY) ?_
  have hdr:(((l.flatMap va6++A).drop (i*va8)).take ((l.length+1-i)*va8)).take ((l.length-i)*va8)=(l.drop i).flatMap va6:=by
   rw[List.take_take,Nat.min_eq_left (by ((try simp only[va8] at *)<;>omega)),List.drop_append_of_le_length (by rw[hcl];((try simp only[va8] at *)<;>omega)),mW (enc:=va6) (e:=va8) (λ_=>rfl),List.take_append_of_le_length (by rw[aL (enc:=va6) (e:=va8) (λ_=>rfl),List.length_drop];exact Nat.le_refl _),List.take_of_length_le];rw[aL (enc:=va6) (e:=va8) (λ_=>rfl),List.length_drop];exact Nat.le_refl _
  simp only[va8] at hdr
  have hdl:(((l.flatMap va6++A).drop (i*va8)).take ((l.length+1-i)*va8)).length=(l.length+1-i)*va8:=by
   rw[List.length_take,List.length_drop,hXl,Nat.min_eq_left (by ((try simp only[va8] at *)<;>omega))]
  simp only[va8] at hdl;have hdo:((l.drop i).flatMap va6).all ef=true:=vba (l.drop i);obtain⟨w1,hw1⟩:∃w1,w1=(l.flatMap va6++A).take ((i+1)*va8)++((l.drop i).flatMap va6++(l.flatMap va6++A).drop ((i+1)*va8+(l.length-i)*va8)):=⟨_,rfl⟩
  have hw1l:w1.length=cap*va8:=by rw[hw1,List.length_append,List.length_append,List.length_take,List.length_drop,hXl,aL (enc:=va6) (e:=va8) (λ_=>rfl),List.length_drop,Nat.min_eq_left (by ((try simp only[va8] at *)<;>omega))];((try simp only[va8] at *)<;>omega)
  simp only[va8] at hw1l;obtain⟨w2,hw2⟩:∃w2,w2=w1.take (i*va8)++(va6 x++w1.drop (i*va8+va8)):=⟨_,rfl⟩
  have hw2l:w2.length=cap*va8:=by rw[hw2,List.length_append,List.length_append,List.length_take,List.length_drop,hw1l,hxl,Nat.min_eq_left (by ((try simp only[va8] at *)<;>omega))];((try simp only[va8] at *)<;>omega)
  simp only[va8] at hw2l
  have hfin:w2.take ((l.length+1)*va8)=(l.take i++x::l.drop i).flatMap va6:=by rw[hw2,hw1];exact vbc l i x hlt A
  simp only[va8] at hfin;refine(zs) ?_;refine nQ [0,0,0,6,15,0,0,96,255] ?_
  (repeat (first | refine SD.r (by rfl) rfl (by rfl) (by rfl) (iZ (n5 (qA hii) (q7) (DZ (show i+1<=l.length+1 by ((try simp only[va8] at *)<;>omega))) (DZ (show i<=l.length+1 by ((try simp only[va8] at *)<;>omega))) @Nat.sub_zero)) ?_ | refine SD.s (by rfl) rfl (by rfl) (by rfl) ?_ | fail))
  refine SD.ed (by rfl) rfl (by rfl) rfl rfl (by rfl) (iZ (n2 (n9 hXl hcl (show i*va8+(l.length+1-i)*va8<=cap*va8 by ((try simp only[va8] at *)<;>omega)) (show Nat.min (l.length+1-i) (l.length+1-(i+1))=l.length-i by simp only[Nat.min_def];split<;>((try simp only[va8] at *)<;>omega)) (show ¬(l.length-i=0) by ((try simp only[va8] at *)<;>omega)) (show(i+1)*va8+(l.length-i)*va8<=cap*va8 by ((try simp only[va8] at *)<;>omega)) hdr hdl (show(l.length-i)*va8<=(l.length+1-i)*va8 by ((try simp only[va8] at *)<;>omega))) (n3 hdo @Nat.le_refl (Eq.symm hw1)))) ?_;refine(zM)<|(az (n8 (DZ (show i<=l.length+1 by ((try simp only[va8] at *)<;>omega))) hxl hxt (show Nat.min 1 (l.length+1-i)=1 by simp only[Nat.min_def];rw[t8 (by ((try simp only[va8] at *)<;>omega))]) hw1l (show i*va8+va8<=cap*va8 by ((try simp only[va8] at *)<;>omega)) hon (Eq.symm hw2)))<|(zV) ?_
  have hqn:(l.take i++x::l.drop i).length=l.length+1:=by rw[List.length_append,List.length_cons,List.length_take,List.length_drop,Nat.min_eq_left hi];((try simp only[va8] at *)<;>omega)
  refine aq.fg (st':=⟨[(6,.buf 0 (l.length+1) va8 (some cap))],95,[.cells w2,.gone],[]⟩) zH ?_;refine aq.fg (Fg.freeze (f':=[(6,ah va8 (l.take i++x::l.drop i) va6)]) 0 rfl (λh=>by cases h) ⟨.inr (by rw[ny,hqn];exact .buf rfl (by rw[hfin];exact bl.refl (aA va7 _)) (by rw[hw2l];((try simp only[va8] at *)<;>omega))),trivial⟩) ?_;refine(zE) ?_;exact zP [.tmp 6]):p:=h
open Go.Proofs.Tryz renaming func130 -> va5 in
open Go.Proofs renaming ak -> va6,Wp -> va9 in
open Go.Ev renaming q9 -> va8 in
def Fe(l:List aI)(i:Nat)(x:aI)(hi:i<=l.length)(hne:0<l.length)(hlen:l.length<=100000):SC prog 130 [.buf 0 l.length 14 none,cD i,.buf 1 1 14 (some 1)] [.cells (l.flatMap ak),.cells (ak x)] [0,1] (λr S'=>r=ah 14 (l.take i++x::l.drop i) ak/\S'=[.gone,.gone]):=by
 have va7:=@dS;have vba:=@Dc;have vbb:=@Fw;have vbc:=@Rp;exact SZ
def Fx:DX prog 192:=by
 intro w a b la ca lb cb tA tB kA kB h1 h2 h3 h4 h5 h6
 rw[run_callFunc_extern Tryz.func192 (by kernel_rfl) (by kernel_rfl) (by kernel_rfl) (e:=Extern.SlicesOverlaps.overlaps #[69,69] #[4]) (by kernel_rfl),
  Lib.run_overlaps_apart w 69 4 174 (by kernel_rfl) 2 (λw=>bW (by kernel_rfl)) a b la ca lb cb h1 tA tB kA kB h2 h3 h4 h5 h6]
 rfl
def B5(x:cA):SC prog 138 [.e0 2,cD 0,.buf 0 1 2 (some 1)] [.cells (aZ x)] [0] (λr S'=>r=ah 2 [x] aZ/\S'=[.gone]):=by
 refine J6 95 Tryz.func138 ?_;have hkc:=λo:Nat=>bL (o:=o) (gY x);have hon:(aZ x).all ef=true:=rfl;rw[pS] at hkc hon ⊢
 refine(mO)<|(mO)<|(iY)<|(xS)<|(az (n2 hkc hon)) ?_;refine aq.fg (st':=⟨[(6,.buf 1 1 2 none)],95,[.gone,.cells (aZ x)],[]⟩) (bK @pS) ?_;refine aq.fg (Fg.freeze (f':=[(6,ah 2 [x] aZ)]) 1 rfl (λh=>by cases h) ⟨.inr (.buf rfl (by rw[flatMap_cons,flatMap_nil,append_nil];exact bl.refl (gY x)) (by show 1*2<=2;decide)),trivial⟩) ?_;refine aq.fg (st':=⟨[(6,ah 2 [x] aZ)],95,[.gone],[]⟩) zH ?_;refine(zE) ?_;exact zP [.tmp 6]
open Go.Proofs renaming cA -> vao,aZ -> vap in
open Go.Ev renaming Hj -> vaq in
def Rq(l:List cA)(i:Nat)(x:cA)(hi:i<l.length)(A:List SV):
 (((l.flatMap aZ++A).take ((i+1)*2)++((l.drop i).flatMap aZ++(l.flatMap aZ++A).drop ((i+1)*2+(l.length-i)*2))).take (i*2)++(aZ x++((l.flatMap aZ++A).take ((i+1)*2)++((l.drop i).flatMap aZ++(l.flatMap aZ++A).drop ((i+1)*2+(l.length-i)*2))).drop (i*2+2))).take ((l.length+1)*2)=(l.take i++x::l.drop i).flatMap aZ:=by
 exact SU
open Go.Proofs.Tryz renaming func138 -> va5 in
open Go.Proofs renaming aZ -> va6,Wq -> va9 in
open Go.Ev renaming Hj -> va8 in
def Ff(l:List cA)(i:Nat)(x:cA)(hi:i<=l.length)(hne:0<l.length)(hlen:l.length<=100000):SC prog 138 [.buf 0 l.length 2 none,cD i,.buf 1 1 2 (some 1)] [.cells (l.flatMap aZ),.cells (aZ x)] [0,1] (λr S'=>r=ah 2 (l.take i++x::l.drop i) aZ/\S'=[.gone,.gone]):=by
 have va7:=@gY;have vba:=@Df;have vbb:=@Fx;have vbc:=@Rq;exact SZ
end Go.Proofs
