/- Lemmas of this claim, each with its conditions. -/
import Derived.Test.YtjiejanfnnieaaaGreatA2
import Derived.Test.YtjiejanfnnieaaaGreatProg
set_option linter.all false
open Nat (beq ble blt)
open Int (ofNat)
open List (mem_map)
open Nat renaming beq_refl -> aa, lt_of_lt_of_le -> aj, mul_le_mul_right -> a8, le_trans -> a9, zero_add -> ba, zero_le -> bb, min_eq_left -> be, lt_succ_self -> bt, zero_mul -> bv, le_refl -> b7, lt_irrefl -> cd, le_succ_of_le -> cp, sub_zero -> c0, succ_mul -> d3
open Bool renaming and_eq_true -> ac, and_self -> ad, not_false -> aR, true_and -> b8, true_or -> co, and_true -> ct, or_false -> d0
open List renaming map_cons -> am, getElem?_cons_succ -> ap, getElem?_cons_zero -> ax, getElem?_set_self -> ay, length_map -> a0, getElem?_set_ne -> a3, drop_drop -> a4, eraseIdx_cons_succ -> a5, getElem?_map -> a6, getElem?_eq_none -> a7, length_drop -> bd, take_zero -> bh, drop_of_length_le -> bi, map_append -> bk, map_nil -> bo, drop_zero -> bJ, mem_cons_of_mem -> b0, getElem?_append_right -> b6, mem_cons_self -> b9, drop_take -> cb, take_take -> cc, take_of_length_le -> ce, length_take -> ch, all_cons -> ci, length_replicate -> cl, getElem?_append -> cn, eraseIdx_nil -> cv, flatMap_cons -> cI, head?_drop -> c5, length_set -> c6, nil_append -> dc, mapM_cons -> dd, replicate -> dv, take_one -> d2
open And renaming intro -> bc
open Go.Proofs.Tryz renaming prog -> bw
namespace Go.Ev
noncomputable section
def uc:AV->SV
 | .agg cs=>.ag (cs.map .a)
 | v=>.a v
def cL:SV->Option (List SV)
 | .any=>none
 | .ag cs=>some cs
 | .a (.agg cs)=>some (cs.map .a)
 | v=>some [v]
def e9:SV->Bool
 | .any=>false
 | .a v=>jS v
 | .ag _=>false
 | .cm _=>false
 | _=>true
def aY(o:Nat)(v:SV):SV:=cond (names o v) .any v
def eK(o:Nat)(f:Fm):Fm:=f.map λp=>(p.1,aY o p.2)
def cE(o:Nat):SO->SO
 | .cells cs=>.cells (cs.map (aY o))
 | .map ks vs b=>.map ks (vs.map (aY o)) b
 | .iter m bs c pos=>.iter (aY o m) bs c pos
 | .oT ks vs bs c pos=>.oT ks vs bs c pos
 | .gone=>.gone
 | .loop c ls p f=>.loop c ls p (eK o f)
 | .mC N=>.mC N
def fD(f:Fm):Operand->Option SV
 | .tmp i=>if i<1000000 then some (aP f i) else none
 | .const v=>(lL mB v).map uc
 | .func g=>some (.fn g [] [])
 | .global _=>none
def pJ(f:Fm):List Operand->Option (List SV)
 | []=>some []
 | x::l=>(fD f x).bind λa=>(pJ f l).map λb=>a::b
def lB(f:Fm):List (Nat×Operand)->Option (List (Nat×SV))
 | []=>some []
 | (i,x)::l=>(fD f x).bind λa=>(lB f l).map λb=>(i,a)::b
def wK(f:Fm):Option Operand->Option (Option AV)
 | none=>some none
 | some x=>match fD f x with
  | some (.a v)=>some (some v)
  | _=>none
def qc{α:Type}(p:Prop)[Decidable p](x:Option α):Option α:=if p then x else none
def G5(P:Program)(t:TypeId):Option (Nat×Bool):=(qq P t).bind λb=>(cw P t).map λn=>(n,b)
def HK(P:Program)(s:TypeId)(f:Nat):Option (Nat×TypeId×Nat):=match P.underlying s with
 | some (.struct fs)=>cond (fs.toList.all λf=>(cw P f.type).isSome) ((fs[f]?).bind λfd=>(cw P fd.type).map λn=>(fd.offset,fd.type,n)) none
 | _=>none
def Pr(P:Program)(t:TypeId):Option (Option Nat):=match P.underlying t with
 | some (.struct fs)=>cond (fs.toList.all λf=>(cw P f.type).isSome) (some none) none
 | some (.array _ e)=>(cw P e).map some
 | _=>none
def HA(P:Program)(t:TypeId):Option (TypeId×Nat):=match P.underlying t with
 | some (.slice e)=>(cw P e).map λs=>(e,s)
 | _=>none
def Q5(P:Program)(t:TypeId):Option (Nat×TypeId×Nat):=match P.underlying t with
 | some (.array n e)=>(cw P e).map λs=>(n,e,s)
 | _=>none
inductive TK where
 | str | sl | map | other
def iS(P:Program)(t:TypeId):TK:=match P.underlying t with
 | some .string=>.str
 | some (.slice _)=>.sl
 | some (.map _ _)=>.map
 | _=>.other
def tE(P:Program)(t:TypeId)(cs:List SV)(off:Nat):Option SV:=(G5 P t).bind λq=>match q.2 with
 | true=>qc (off+q.1<=cs.length) (some (.ag ((cs.drop off).take q.1)))
 | false=>cs[off]?
def td(place:Nat->Option (Nat×Nat))(cells:List SV):List (Nat×SV)->Option (List SV)
 | []=>some cells
 | (i,v)::rest=>match place i with
  | none=>none
  | some (off,size)=>(cL v).bind λcs=>
   qc (cs.length=size/\off+size<=cells.length) (td place (cells.take off++(cs++cells.drop (off+size))) rest)
def Ct(P:Program)(t:TypeId)(parts:List (Nat×SV)):Option SV:=
 (de P t).bind λz=>(Pr P t).bind λq=>match q with
  | none=>(td (λi=>(HK P t i).map λq=>(q.1,q.2.2)) (z.cells.map .a) parts).map .ag
  | some s=>(td (λi=>some (i*s,s)) (z.cells.map .a) parts).map .ag
def nh(P:Program)(t:TypeId)(len:Nat)(parts:List (Nat×SV)):Option (Nat×List SV):=
 (HA P t).bind λq=>(de P q.1).bind λz=>
  qc (len*q.2<=16777216/\z.cells.length=q.2/\q.2≠0)
   ((td (λi=>some (i*q.2,q.2)) ((rep z.cells len).map .a) parts).map λcs=>(q.2,cs))
mutual
def cN:SV->Option AV
 | .a v=>some v
 | .ag cs=>(iP cs).map .agg
 | .iface t v=>(cN v).map (.iface t)
 | _=>none
def iP:List SV->Option (List AV)
 | []=>some []
 | d::ds=>(cN d).bind λa=>(iP ds).map λb=>a::b
end
def H5:SV->Option Nat
 | .a v=>c7 v
 | _=>none
def ti(P:Program)(kt:TypeId)(k:AV):List AV->Nat->Option (Option Nat)
 | [],_=>some none
 | e::es,i=>match lk P 4 kt k e with
  | some true=>some (some i)
  | some false=>ti P kt k es (i+1)
  | none=>none
def Ay(S:List SO):SV->Option (List AV×List SV)
 | .map o=>match S[o]? with
  | some (.map ks vs _)=>some (ks,vs)
  | _=>none
 | .im ks vs=>some (ks,vs)
 | .a (.map none)=>some ([],[])
 | _=>none
def jd(P:Program)(S:List SO)(t:TypeId)(x k:SV)(ok:Bool):Option SV:=
 (dn P t).bind λ(kt,et)=>(cN k).bind λk=>cond (wH P kt k)
  ((Ay S x).bind λ(ks,vs)=>(ti P kt k ks 0).bind λr=>
   let v:Option (SV×Bool):=match r with
    | some i=>(vs[i]?).map λe=>(e,true)
    | none=>(de P et).map λz=>(uc z,false)
   v.map λ(v,b)=>cond ok (.cm [v,.a (.bool b)]) v) none
def iq(P:Program)(S:List SO)(t:TypeId)(x k v:SV):Option (List SO):=
 (dn P t).bind λ(kt,_)=>(cN k).bind λk=>cond (wH P kt k)
  (
   match x with
   | .map o=>match S[o]? with
    | some (.map ks vs b)=>(ti P kt k ks 0).bind λr=>match r with
     | some i=>(ks[i]?).bind λk0=>cond (stays k k0) (some (S.set o (.map (ks.set i k) (vs.set i v) b))) none
     | none=>some (S.set o (.map (ks++[k]) (vs++[v]) (b.map λp=>(p.1++[p.2],p.2+1))))
    | _=>none
   | _=>none) none
def KZ(P:Program)(S:List SO)(t:TypeId)(x k:SV):Option (List SO):=
 (dn P t).bind λ(kt,_)=>(cN k).bind λk=>cond (wH P kt k)
  (
   match x with
   | .map o=>match S[o]? with
    | some (.map ks vs b)=>(ti P kt k ks 0).map λr=>match r with
     | some i=>S.set o (.map (ks.eraseIdx i) (vs.eraseIdx i) (b.map λp=>(p.1.eraseIdx i,p.2)))
     | none=>S
    | _=>none
   | _=>none) none
def yI(P:Program)(S:List SO)(t:TypeId)(x:SV):Option Nat:=match iS P t,x with
 | .str,.a (.str s)=>some s.length
 | .sl,.sl n _ _=>some n
 | .sl,.buf _ n _ _=>some n
 | .sl,.a (.slice none n _ _)=>some n
 | .map,x=>(Ay S x).map λe=>e.1.length
 | .sl,.sub _ _ n _ _=>some n
 | .sl,.e0 _=>some 0
 | _,_=>none
def tR(S:List SO)(s:Nat):SV->Option (Nat×List SV)
 | .sl n e cs=>qc (e=s) (some (n,cs))
 | .buf o n e _=>match S[o]? with
  | some (.cells cs)=>qc (e=s/\n*s<=cs.length) (some (n,cs.take (n*s)))
  | _=>none
 | .a (.slice none 0 0 (some 0))=>some (0,[])
 | .sub o off n e _=>match S[o]? with
  | some (.cells cs)=>qc (e=s/\off+n*s<=cs.length) (some (n,(cs.drop off).take (n*s)))
  | _=>none
 | .e0 _=>some (0,[])
 | _=>none
def ek(o:Nat)(S:List SO):List SO:=S.map (cE o)
def fW(S:List SO)(so:SO):List SO:=ek S.length S++[cE S.length so]
def pa(P:Program)(e:TypeId):Bool:=match P.info? e with
 | some i=>ble i.bytes 10000
 | none=>false
def MA(S:List SO):SV->Option (SV×List SO×Option Nat)
 | .a (.slice none 0 0 (some 0))=>some (.a (.slice none 0 0 (some 0)),S,none)
 | .buf o n e c=>qc (n<=1000000) (some (.buf o n e c,S,none))
 | .e0 e=>some (.e0 e,S,none)
 | _=>none
def KF(S:List SO)(s:Nat)(x:SV)(p:Nat×List SV):Option (SV×List SO×Option Nat):=match x with
 | .a (.slice none 0 0 (some 0))=>some (.buf S.length p.1 s none,fW S (.cells p.2),some S.length)
 | .buf o n es none=>match S[o]? with
  | some (.cells cs)=>qc (es=s/\n<=1000000/\n*es<=cs.length)
   (some (.buf o (n+p.1) es none,(ek o S).set o (cE o (.cells (cs.take (n*es)++p.2))),some o))
  | _=>none
 | .e0 e=>qc (e=s) (some (.buf S.length p.1 s none,fW S (.cells p.2),some S.length))
 | .buf o n es (some c)=>match S[o]? with
  | some (.cells cs)=>qc (es=s/\n<=1000000/\n*es<=cs.length/\c<n+p.1)
   (some (.buf S.length (n+p.1) es none,fW S (.cells (cs.take (n*es)++p.2)),some S.length))
  | _=>none
 | _=>none
def isInt(P:Program)(t:TypeId):Bool:=match P.underlying t with
 | some (.int _)=>true
 | _=>false
def xr(P:Program)(S:List SO)(xt:TypeId)(s:Nat)(z:AV)(y:SV):Option (Nat×List SV):=match iS P xt with
 | .sl=>tR S s y
 | .other=>cond (isInt P xt) ((H5 y).bind λn=>qc (n<=1000000) (some (n,(rep z.cells n).map .a))) none
 | _=>none
def w6(P:Program)(S:List SO)(st xt:TypeId)(x y:SV):Option (SV×List SO×Option Nat):=
 (HA P st).bind λq=>(de P q.1).bind λz=>qc (z.cells.length=q.2/\q.2≠0/\pa P q.1=true)
  ((xr P S xt q.2 z y).bind λp=>if p.1=0 then MA S x else qc (p.1<=1000000/\p.2.all e9=true) (KF S q.2 x p))
def AJ(isMax:Bool):SV->List SV->Option SV
 | x,[]=>some x
 | .a x,.a y::l=>(yQ isMax x y).bind λz=>AJ isMax (.a z) l
 | _,_=>none
def SJ:SV->Option (Nat×Nat×Nat×Nat)
 | .buf o n e _=>some (o,0,n,e)
 | .sub o off n e _=>some (o,off,n,e)
 | _=>none
def M4(S:List SO)(s o off des:Nat)(rows:List SV)(n:Nat):Option (SV×List SO×Option Nat):=
 if n=0 then some (.a (.int .i64 0),S,none) else match S[o]? with
  | some (.cells cs)=>qc (des=s/\off+n*s<=cs.length/\n*s<=rows.length/\(rows.take (n*s)).all e9=true)
   (some (.a (.int .i64 (n:Nat)),S.set o (.cells (cs.take off++(rows.take (n*s)++cs.drop (off+n*s)))),none))
  | _=>none
def JB(P:Program)(S:List SO)(t:TypeId)(x y:SV):Option (SV×List SO×Option Nat):=(HA P t).bind λq=>(SJ x).bind λ(o,off,dl,des)=>(tR S q.2 y).bind λp=>
 M4 S q.2 o off des p.2 (Nat.min p.1 dl)
def Cw(P:Program)(S:List SO)(t:TypeId)(x:SV):Option (SV×List SO×Option Nat):=(HA P t).bind λq=>(de P q.1).bind λz=>(SJ x).bind λ(o,off,n,es)=>
 if n=0 then some (.a lH,S,none) else match S[o]? with
  | some (.cells cs)=>qc (es=q.2/\z.cells.length=q.2/\off+n*q.2<=cs.length/\(rep z.cells n).all jS=true)
   (some (.a lH,S.set o (.cells (cs.take off++((rep z.cells n).map .a++cs.drop (off+n*q.2)))),none))
  | _=>none
def Ht:SV->Option Nat
 | .a (.slice none 0 0 (some 0))=>some 0
 | .buf _ _ _ (some c)=>some c
 | .sub _ _ _ _ (some c)=>some c
 | .e0 _=>some 0
 | _=>none
def gJ(P:Program)(S:List SO)(b:Builtin)(ats:List TypeId)(xs:List SV):Option (SV×List SO×Option Nat):=match b,ats,xs with
 | .append,st::xt::_,[x,y]=>w6 P S st xt x y
 | .len,t::_,x::_=>(yI P S t x).map λ(n:Nat)=>((SV.a (.int .i64 (n:Int)),S,none):SV×List SO×Option Nat)
 | .min,_,x::l=>(AJ false x l).map λv=>(v,S,none)
 | .max,_,x::l=>(AJ true x l).map λv=>(v,S,none)
 | .delete,t::_,x::k::_=>(KZ P S t x k).map λS=>(.a lH,S,none)
 | .copy,dt::_,[x,y]=>JB P S dt x y
 | .clear,t::_,[x]=>Cw P S t x
 | .cap,t::_,[x]=>(HA P t).bind λ_=>(Ht x).map λ(c:Nat)=>((SV.a (.int .i64 (c:Int)),S,none):SV×List SO×Option Nat)
 | _,_,_=>none
def J8:Option SV->Option SV->Option SV->Option SV
 | some (.a (.bool z)),some x,some y=>some (cond z x y)
 | _,_,_=>none
def yJ(P:Program)(S:List SO)(tt:TypeId):SV->Option SV
 | .ptr o off=>match S[o]? with
  | some (.cells cs)=>tE P tt cs off
  | _=>none
 | .ip cs=>tE P tt cs 0
 | _=>none
def Dk(P:Program)(S:List SO)(tt:TypeId)(a x:SV):Option (List SO):=match a with
 | .ptr o off=>match S[o]? with
  | some (.cells cs)=>(G5 P tt).bind λq=>(cL x).bind λvs=>
   qc (vs.length=q.1/\off+q.1<=cs.length/\vs.all e9=true) (some (S.set o (.cells (cs.take off++(vs++cs.drop (off+q.1))))))
  | _=>none
 | _=>none
def bG(P:Program):SV->Option SV
 | .ptr o off=>some (.ptr o off)
 | .ip cs=>some (.ip cs)
 | .fn g a b=>some (.fn g a b)
 | .sl n e cs=>some (.sl n e cs)
 | .buf o n e c=>some (.buf o n e c)
 | .sub o off n e c=>some (.sub o off n e c)
 | .e0 e=>some (.e0 e)
 | .a (.fn (.method nm) [.iface t v] ys)=>(je P t nm).map λ_=>.a (.fn (.method nm) [.iface t v] ys)
 | _=>none
def pg(P:Program)(s:TypeId)(x:SV)(f:Nat):Option SV:=(HK P s f).bind λq=>qc (q.2.2≠0) (match x with
 | .ptr o off=>some (.ptr o (off+q.1))
 | .ip cs=>qc (q.1<=cs.length) (some (.ip (cs.drop q.1)))
 | _=>none)
def yi(P:Program)(s:TypeId)(x:SV)(f:Nat):Option SV:=match x with
 | .ag cs=>(HK P s f).bind λq=>tE P q.2.1 cs q.1
 | _=>none
def pq(P:Program)(t:TypeId)(x:SV)(i:SV):Option SV:=(H5 i).bind λi=>match Q5 P t with
 | some q=>qc (i<q.1) (match x with
  | .ptr o off=>some (.ptr o (off+i*q.2.2))
  | .ip cs=>qc (i*q.2.2<=cs.length) (some (.ip (cs.drop (i*q.2.2))))
  | _=>none)
 | none=>(HA P t).bind λq=>match x with
  | .sl n es cs=>qc (i<n/\q.2=es) (some (.ip ((cs.drop (i*q.2)).take q.2)))
  | .buf o n es _=>qc (i<n/\q.2=es) (some (.ptr o (i*q.2)))
  | .sub o off n es _=>qc (i<n/\q.2=es) (some (.ptr o (off+i*q.2)))
  | _=>none
def CN(P:Program)(t:TypeId)(x:SV)(i:SV):Option SV:=(H5 i).bind λi=>match x with
 | .ag cs=>(Q5 P t).bind λq=>qc (i<q.1) (tE P q.2.1 cs (i*q.2.2))
 | .a (.str s)=>match iS P t with
  | .str=>(s[i]?).map λb=>.a (.int .u8 (ofNat b))
  | _=>none
 | _=>none
def mR(P:Program)(t:TypeId)(x:SV)(lo hi mx:Option AV):Option SV:=match iS P t,x with
 | .str,.a (.str s)=>match mx with
  | some _=>none
  | none=>(cK s.length (some s.length) lo hi none).map λ(l,hh,_)=>.a (.str ((s.drop l).take (hh-l)))
 | .sl,.sl n es cs=>match mx with
  | some m=>(HA P t).bind λq=>qc (lo=none/\hi.bind c7=some 0/\c7 m=some 0/\q.2=es) (some (.e0 q.2))
  | none=>(HA P t).bind λq=>(cK n none lo hi none).bind λ(l,hh,_)=>qc (q.2=es) (some (.sl (hh-l) q.2 ((cs.drop (l*q.2)).take ((hh-l)*q.2))))
 | .sl,.buf o n es c=>match mx with
  | some _=>none
  | none=>(HA P t).bind λq=>(cK n c lo hi none).bind λ(l,hh,m)=>qc (q.2=es) (some (match lo with
   | none=>.buf o (hh-l) q.2 (bT m l)
   | some _=>.sub o (l*q.2) (hh-l) q.2 (bT m l)))
 | .sl,.sub o off n es c=>match mx with
  | some _=>none
  | none=>(HA P t).bind λq=>(cK n c lo hi none).bind λ(l,hh,m)=>qc (q.2=es) (some (.sub o (off+l*q.2) (hh-l) q.2 (bT m l)))
 | .sl,.a (.slice none 0 0 (some 0))=>(HA P t).bind λ_=>(cK 0 (some 0) lo hi mx).map λ_=>.a (.slice none 0 0 (some 0))
 | .sl,.e0 e=>(HA P t).bind λq=>(cK 0 (some 0) lo hi mx).bind λ(l,hh,m)=>qc (l=0/\hh=0/\m=some 0/\q.2=e) (some (.e0 e))
 | _,_=>none
def JN(P:Program)(t:TypeId):Bool:=match P.underlying t with
 | some (.interface _)=>false
 | some _=>true
 | none=>false
def dH(P:Program)(f:Fm)(S:List SO)(op:Op):Option (SV×List SO×Option Nat):=match op with
 | .move x=>(fD f x).map λv=>(v,S,none)
 | .assign x=>(fD f x).map λv=>(v,S,none)
 | .pick c a b=>(J8 (fD f c) (fD f a) (fD f b)).map λv=>(v,S,none)
 | .alloc e=>(de P e).map λz=>(.ptr S.length 0,fW S (.cells (z.cells.map .a)),some S.length)
 | .box _ x=>(fD f x).bind λv=>(cL v).map λcs=>(.ptr S.length 0,fW S (.cells cs),some S.length)
 | .build tt ps=>(lB f ps.toList).bind λl=>(Ct P tt l).map λv=>(v,S,none)
 | .buildSlice tt n ps=>(lB f ps.toList).bind λl=>(nh P tt n l).map λq=>(.buf S.length n q.1 (some n),fW S (.cells q.2),some S.length)
 | .makeMap _ none=>some (.map S.length,fW S (.map [] [] none),some S.length)
 | .makeSlice tt l c=>match fD f l,fD f c with
  | some (.a l),some (.a c)=>(kn P tt l c).map λq=>(.buf S.length q.1 q.2.1 (some q.2.2.1),fW S (.cells (q.2.2.2.map .a)),some S.length)
  | _,_=>none
 | .load tt a=>(fD f a).bind λa=>(yJ P S tt a).map λv=>(v,S,none)
 | .store tt a x=>(fD f a).bind λa=>(fD f x).bind λx=>(Dk P S tt a x).map λS=>(.a lH,S,none)
 | .nilCheck x=>(fD f x).bind λx=>(bG P x).map λv=>(v,S,none)
 | .binOp op t x y _=>(fD f x).bind λx=>(fD f y).bind λy=>(cN x).bind λx=>(cN y).bind λy=>(da P op t x y).map λv=>(.a v,S,none)
 | .unOp op _ x=>(fD f x).bind λx=>(cN x).bind λx=>(SA op x).map λv=>(.a v,S,none)
 | .convert s d x=>(fD f x).bind λx=>(cN x).bind λx=>(mA P s d x).map λv=>(.a v,S,none)
 | .makeInterface t x=>cond (JN P t) ((fD f x).map λv=>(.iface t v,S,none)) none
 | .makeFunc (.func g) first cap=>(pJ f first.toList).bind λa=>(pJ f cap.toList).map λb=>(.fn g a b,S,none)
 | .slice tt x lo hi mx=>(fD f x).bind λx=>(wK f lo).bind λlo=>(wK f hi).bind λhi=>(wK f mx).bind λmx=>(mR P tt x lo hi mx).map λv=>(v,S,none)
 | .fieldAddr s x fl=>(fD f x).bind λx=>(pg P s x fl).map λv=>(v,S,none)
 | .field s x fl=>(fD f x).bind λx=>(yi P s x fl).map λv=>(v,S,none)
 | .indexAddr t x i=>(fD f x).bind λx=>(fD f i).bind λi=>(pq P t x i).map λv=>(v,S,none)
 | .index t x i=>(fD f x).bind λx=>(fD f i).bind λi=>(CN P t x i).map λv=>(v,S,none)
 | .lookup t x k ok=>(fD f x).bind λx=>(fD f k).bind λk=>(jd P S t x k ok).map λv=>(v,S,none)
 | .mapUpdate t m k x=>(fD f m).bind λm=>(fD f k).bind λk=>(fD f x).bind λx=>(iq P S t m k x).map λS=>(.a lH,S,none)
 | .insert t m k x=>(fD f m).bind λm=>(fD f k).bind λk=>(fD f x).bind λx=>(iq P S t m k x).map λS=>(.a lH,S,none)
 | .extract x i=>match fD f x with
  | some (.cm vs)=>(vs[i]?).map λv=>(v,S,none)
  | _=>none
 | .call { callee:=.builtin b,args:=aS,argTypes:=ats }=>(pJ f aS.toList).bind λxs=>gJ P S b ats.toList xs
 | .makeFunc (.method nm) first cap=>(pJ f first.toList).bind λa=>(iP a).bind λa=>(pJ f cap.toList).bind λb=>(iP b).map λb=>(.a (.fn (.method nm) a b),S,none)
 | _=>none
def jH(k:Option Nat)(v:SV):SV:=match k with
 | none=>v
 | some o=>aY o v
def ki(f:Fm)(kill:Option Nat):Fm:=match kill with
 | none=>f
 | some o=>eK o f
def sg(f:Fm)(kill:Option Nat)(dst:Option Tmp)(v:SV):Fm:=match dst with
 | none=>ki f kill
 | some d=>(d,v)::ki f kill
section
variable {θ:Nat->Loc} {ρ:jX} {P:Program}
theorem cY.a:∀(aS:List AV),cY θ ρ (aS.map .a) aS
 | []=>by rw[bo,bf]
 | a::aS=>by rw[am,aK];exact⟨a,aS,rfl,by rw[VS],cY.a aS⟩
def zy(v:AV):VS θ ρ (uc v) v:=by
 unfold uc;split
 ·rw[VS];exact⟨_,rfl,cY.a _⟩
 ·rw[VS]
def bL{f:Fm}{af:Nat->AV}{n:Nat}{wv:Nat->AV}(hF:FR θ ρ (aP f) af n wv){x:Operand}{v:SV}(h:fD f x=some v):∃a,ev (eh af n) x=some a/\VS θ ρ v a:=by
 cases x with
 | tmp i=>
  simp only[fD] at h
  have hlim:i<1000000:=by
   apply Decidable.byContradiction;intro hn;rw[v6 hn] at h;cases h
  rw[ut hlim] at h;cases h;have:=hF.v i;by_cases hi:i<n
  ·rw[ut hi] at this;exact⟨_,RR hi,this⟩
  ·rw[v6 hi,hF.u i hlim] at this
   exact⟨lH,by
    have:(eh af n).get i=none:=zF af n i (Nat.le_of_not_lt hi)
    simp only[ev,this],this⟩
 | const c=>
  simp only[fD] at h;obtain⟨a,ha,rfl⟩:=au h;exact⟨a,ha,zy a⟩
 | func g=>
  simp only[fD,rc] at h;subst h;exact⟨_,PM,by rw[VS];exact⟨[],[],rfl,by rw[bf],by rw[bf]⟩⟩
 | global g=>simp[fD] at h
def l7{f:Fm}{af:Nat->AV}{n:Nat}{wv:Nat->AV}(hF:FR θ ρ (aP f) af n wv):∀{l:List Operand} {vs:List SV},pJ f l=some vs->∃aS,Az (eh af n) l=some aS/\cY θ ρ vs aS
 | [],vs,h=>by
  simp only[pJ,rc] at h;subst h;exact⟨[],rfl,by rw[bf]⟩
 | x::l,vs,h=>by
  rw[pJ] at h;obtain⟨v,hv,h⟩:=ul h;obtain⟨ws,hw,rfl⟩:=au h;obtain⟨a,ha,ka⟩:=bL hF hv;obtain⟨aS,hs,ks⟩:=l7 hF hw;exact⟨a::aS,by rw[Nh,ha,hs];rfl,by rw[aK];exact⟨a,aS,rfl,ka,ks⟩⟩
def SX(θ:Nat->Loc)(ρ:jX):List (Nat×SV)->List (Nat×AV)->Prop
 | [],aS=>aS=[]
 | (i,v)::l,aS=>∃a r,aS=(i,a)::r/\VS θ ρ v a/\SX θ ρ l r
def vr{f:Fm}{af:Nat->AV}{n:Nat}{wv:Nat->AV}(hF:FR θ ρ (aP f) af n wv):∀{l:List (Nat×Operand)} {vs:List (Nat×SV)},lB f l=some vs->∃aS,lA (eh af n) l=some aS/\SX θ ρ vs aS
 | [],vs,h=>by
  simp only[lB,rc] at h;subst h;exact⟨[],rfl,rfl⟩
 | (i,x)::l,vs,h=>by
  rw[lB] at h;obtain⟨v,hv,h⟩:=ul h;obtain⟨ws,hw,rfl⟩:=au h;obtain⟨a,ha,ka⟩:=bL hF hv;obtain⟨aS,hs,ks⟩:=vr hF hw;exact⟨(i,a)::aS,by rw[FV,ha,hs];rfl,a,aS,rfl,ka,ks⟩
def Di{f:Fm}{af:Nat->AV}{n:Nat}{wv:Nat->AV}(hF:FR θ ρ (aP f) af n wv){o:Option Operand}{v:Option AV}(h:wK f o=some v):Ng (eh af n) o=some v:=by
 cases o with
 | none=>simp only[wK,rc] at h;subst h;rfl
 | some x=>
  simp only[wK] at h;split at h
  ·rename_i w hw;cases h;obtain⟨a,ha,ka⟩:=bL hF hw;rw[VS] at ka;subst ka;simp only[Ng,ha,m7]
  ·cases h
def cells_one{v:AV}(h:∀cs,v≠.agg cs):v.cells=[v]:=by
 cases v<;>first | rfl | exact un rfl (h _)
def uK{v:SV}{x:AV}(hv:VS θ ρ v x){cs:List SV}(h:cL v=some cs):cY θ ρ cs x.cells:=by
 have one:∀{w:SV},VS θ ρ w x->(∀cs,x≠.agg cs)->cY θ ρ [w] x.cells:=by
  intro w hw hx;rw[cells_one hx,aK];exact⟨x,[],rfl,hw,by rw[bf]⟩
 cases v with
 | any=>simp[cL] at h
 | a v=>
  have hv':=hv;rw[VS] at hv;subst hv
  cases x with
  | agg cs'=>simp only[cL,rc] at h;subst h;exact cY.a _
  | _=>simp only[cL,rc] at h;subst h;exact one hv' (λ_ h=>by cases h)
 | ag cs'=>
  simp only[cL,rc] at h;subst h;rw[VS] at hv;obtain⟨aS,rfl,h2⟩:=hv;exact h2
 | sl n e cs'=>
  simp only[cL,rc] at h;subst h;refine one hv ?_;rw[VS,GS] at hv
  rcases hv with⟨_,_,o,e',c,rfl,_,_⟩ | ⟨id,off,cap,row,rfl,_⟩<;>exact λ_ h=>by cases h
 | im ks vs=>
  simp only[cL,rc] at h;subst h;refine one hv ?_;rw[VS,GS] at hv;obtain⟨id,l,c,rfl,_⟩:=hv
  exact λ_ h=>by cases h
 | ip cs'=>
  simp only[cL,rc] at h;subst h;refine one hv ?_;rw[VS,GS] at hv;obtain⟨id,off,row,r,rfl,_⟩:=hv
  exact λ_ h=>by cases h
 | ptr o off=>
  simp only[cL,rc] at h;subst h;refine one hv ?_
  rw[VS] at hv;subst hv;exact λ_ h=>by cases h
 | map o=>
  simp only[cL,rc] at h;subst h;refine one hv ?_
  rw[VS] at hv;subst hv;exact λ_ h=>by cases h
 | buf o n e c=>
  simp only[cL,rc] at h;subst h;refine one hv ?_
  rw[VS] at hv;subst hv;exact λ_ h=>by cases h
 | sub o off n e c=>
  simp only[cL,rc] at h;subst h;refine one hv ?_
  rw[VS] at hv;subst hv;exact λ_ h=>by cases h
 | e0 e=>
  simp only[cL,rc] at h;subst h;refine one hv ?_
  rw[VS] at hv;obtain⟨o,e',rfl,_⟩:=hv;exact λ_ h=>by cases h
 | cm vs=>
  simp only[cL,rc] at h;subst h;refine one hv ?_
  rw[VS] at hv;obtain⟨aS,rfl,_⟩:=hv;exact λ_ h=>by cases h
 | fn g a b=>
  simp only[cL,rc] at h;subst h;refine one hv ?_
  rw[VS] at hv;obtain⟨aS,bs,rfl,_⟩:=hv;exact λ_ h=>by cases h
 | iface t v=>
  simp only[cL,rc] at h;subst h;refine one hv ?_
  rw[VS] at hv;obtain⟨y,rfl,_⟩:=hv;exact λ_ h=>by cases h
def Qo{v:SV}{x:AV}(hv:VS θ ρ v x)(h:e9 v=true):jS x=true:=by
 cases v with
 | any=>simp[e9] at h
 | a v=>rw[VS] at hv;subst hv;exact h
 | ag cs=>simp[e9] at h
 | cm cs=>simp[e9] at h
 | sl n e cs=>rw[VS,GS] at hv;rcases hv with⟨_,_,o,e',c,rfl,_,_⟩ | ⟨id,off,cap,row,rfl,_⟩<;>rfl
 | im ks vs=>rw[VS,GS] at hv;obtain⟨id,l,c,rfl,_⟩:=hv;rfl
 | ip cs=>rw[VS,GS] at hv;obtain⟨id,off,row,r,rfl,_⟩:=hv;rfl
 | ptr o off=>rw[VS] at hv;subst hv;rfl
 | map o=>rw[VS] at hv;subst hv;rfl
 | buf o n e c=>rw[VS] at hv;subst hv;rfl
 | sub o off n e c=>rw[VS] at hv;subst hv;rfl
 | e0 e=>rw[VS] at hv;obtain⟨o,e',rfl,_⟩:=hv;rfl
 | fn g a b=>rw[VS] at hv;obtain⟨aS,bs,rfl,_⟩:=hv;rfl
 | iface t v=>rw[VS] at hv;obtain⟨y,rfl,_⟩:=hv;rfl
def ma:∀{vs:List SV} {xs:List AV},cY θ ρ vs xs->vs.all e9=true->xs.all jS=true
 | [],xs,hv,_=>by rw[bf] at hv;subst hv;rfl
 | d::ds,xs,hv,h=>by
  rw[aK] at hv;obtain⟨a,r,rfl,h1,h2⟩:=hv;rw[ci,ac] at h ⊢;exact⟨Qo h1 h.1,ma h2 h.2⟩
def bY{α:Type}{p:Prop}[Decidable p]{x:Option α}{y:α}(h:qc p x=some y):p/\x=some y:=by
 unfold qc at h;split at h
 ·rename_i hp;exact⟨hp,h⟩
 ·cases h
def uu{t:TypeId}{q:Nat×Bool}(h:G5 P t=some q):qq P t=some q.2/\cw P t=some q.1:=by
 unfold G5 at h;obtain⟨b,hb,h⟩:=ul h;obtain⟨n,hn,rfl⟩:=au h;exact⟨hb,hn⟩
def uQ{s:TypeId}{f:Nat}{q:Nat×TypeId×Nat}(h:HK P s f=some q):∃fs fd,P.underlying s=some (.struct fs)/\fs.toList.all (λf=>(cw P f.type).isSome)=true/\fs[f]?=some fd/\cw P fd.type=some q.2.2/\fd.offset=q.1/\fd.type=q.2.1:=by
 unfold HK at h;split at h
 ·rename_i fs hu;obtain⟨hb,h⟩:=aG h;obtain⟨fd,hfd,h⟩:=ul h;obtain⟨n,hn,rfl⟩:=au h;exact⟨fs,fd,hu,hb,hfd,hn,rfl,rfl⟩
 ·cases h
def gj{t:TypeId}{q:TypeId×Nat}(h:HA P t=some q):P.underlying t=some (.slice q.1)/\cw P q.1=some q.2:=by
 unfold HA at h;split at h
 ·rename_i e hu;obtain⟨n,hn,rfl⟩:=au h;exact⟨hu,hn⟩
 ·cases h
def Es{t:TypeId}{q:Nat×TypeId×Nat}(h:Q5 P t=some q):P.underlying t=some (.array q.1 q.2.1)/\cw P q.2.1=some q.2.2:=by
 unfold Q5 at h;split at h
 ·rename_i n e hu;obtain⟨s,hs,rfl⟩:=au h;exact⟨hu,hs⟩
 ·cases h
def yH{t:TypeId}(h:iS P t=.str):P.underlying t=some .string:=by
 unfold iS at h
 split at h<;>first | assumption | cases h
def pz{t:TypeId}(h:iS P t=.sl):∃e,P.underlying t=some (.slice e):=by
 unfold iS at h
 split at h<;>first | exact⟨_,by assumption⟩ | cases h
def NG{t:TypeId}(h:iS P t=.map):∃k e,P.underlying t=some (.map k e):=by
 unfold iS at h
 split at h<;>first | exact⟨_,_,by assumption⟩ | cases h
def tF{t:TypeId}{cs:List SV}{aS:List AV}(hv:cY θ ρ cs aS){off:Nat}{v:SV}(h:tE P t cs off=some v):∃a,eV P t aS off=some a/\VS θ ρ v a:=by
 unfold tE at h;obtain⟨q,hq,h⟩:=ul h;obtain⟨h1,h2⟩:=uu hq;obtain⟨n,b⟩:=q;unfold eV;simp only at h1 h2 h;rw[h1];cases b
 ·exact hv.get h
 ·simp only at h ⊢;obtain⟨hle,h⟩:=bY h;cases h;rw[h2,m8,hv.length,eY hle,ar];exact⟨_,rfl,by rw[VS];exact⟨_,rfl,(hv.drop off).take n⟩⟩
def BH{h:H}{id:Nat}{aS:List AV}(hr:rI h.aU id=some aS)(t:TypeId)(off:Nat):h.load P t id off=eV P t aS off:=by
 unfold H.load eV H.chunk;unfold rI at hr
 cases ho:h.aU.get id with
 | none=>rw[ho] at hr;cases hr
 | some ob=>
  rw[ho] at hr
  cases ob with
  | cells cs bO=>
   have hr:some cs=some aS:=hr;cases hr
   cases qq P t with
   | none=>rfl
   | some b=>
    cases b
    ·rfl
    ·simp only
     cases cw P t with
     | none=>rfl
     | some n=>simp only[m8];cases ble (off+n) aS.length<;>rfl
  | ro cs=>
   have hr:some cs=some aS:=hr;cases hr
   cases qq P t with
   | none=>rfl
   | some b=>
    cases b
    ·rfl
    ·simp only
     cases cw P t with
     | none=>rfl
     | some n=>simp only[m8];cases ble (off+n) aS.length<;>rfl
  | _=>cases hr
def LB{t:TypeId}{row:List AV}{off r k:Nat}(hl:off+r<=row.length){v:AV}(h:eV P t ((row.drop off).take r) k=some v):eV P t row (off+k)=some v:=by
 unfold eV at h ⊢;split at h
 ·obtain⟨n,hn,h⟩:=ul h;obtain⟨hb,h⟩:=aG h;cases h;have hb:=mt hb;rw[ch,bd] at hb;rw[hn,m8,eY (show off+k+n<=row.length by omega),ar,cb,cc,a4,be i5]
 ·rw[List.getElem?_take] at h;split at h
  ·rw[List.getElem?_drop] at h;exact h
  ·cases h
 ·cases h
def tf{place:Nat->Option (Nat×Nat)}:∀{parts:List (Nat×SV)} {ps:List (Nat×AV)} {cells:List SV} {aS:List AV} {out:List SV},SX θ ρ parts ps->cY θ ρ cells aS->td place cells parts=some out->∃o,jV place aS ps=some o/\cY θ ρ out o
 | [],ps,cells,aS,out,hp,hc,h=>by
  have hp:ps=[]:=hp;subst hp;simp only[td,rc] at h;subst h;exact⟨aS,rfl,hc⟩
 | (i,v)::l,ps,cells,aS,out,hp,hc,h=>by
  obtain⟨a,r,rfl,h1,h2⟩:=hp;simp only[td] at h;simp only[jV];split at h
  ·cases h
  ·rename_i off size hpl;rw[hpl];simp only;obtain⟨cs,hcs,h⟩:=ul h;obtain⟨⟨hb1,hb2⟩,h⟩:=bY h;have k:=uK h1 hcs;subst hb1;rw[k.length,hc.length,aa,eY hb2,ad,ar];exact tf h2 ((hc.take off).app (k.app (hc.drop _))) h
def vC{p q:Nat->Option (Nat×Nat)}(hpq:∀i,(p i).isSome=true->q i=p i):∀{ps:List (Nat×AV)} {aS o:List AV},jV p aS ps=some o->jV q aS ps=some o
 | [],aS,o,h=>h
 | (i,v)::l,aS,o,h=>by
  simp only[jV] at h ⊢
  cases hp:p i with
  | none=>rw[hp] at h;cases h
  | some x=>
   obtain⟨off,size⟩:=x;rw[hpq i (by rw[hp];rfl),hp];rw[hp] at h;simp only at h ⊢;obtain⟨hb,h⟩:=aG h;rw[hb,ar];exact vC hpq h
def KK{t:TypeId}{parts:List (Nat×SV)}{ps:List (Nat×AV)}(hp:SX θ ρ parts ps){v:SV}(h:Ct P t parts=some v):∃a,uJ P t ps=some a/\VS θ ρ v a:=by
 unfold Ct at h;unfold uJ;obtain⟨z,hz,h⟩:=ul h;obtain⟨q,hq,h⟩:=ul h;rw[hz,m8];unfold Pr at hq;split at hq
 ·rename_i fs hu;obtain⟨hb,hq⟩:=aG hq;cases hq;simp only at h;obtain⟨o,ho,rfl⟩:=au h;obtain⟨w,hw,kw⟩:=tf hp (cY.a z.cells) ho
  have hw:=vC (q:=vi P fs) (λi hi=>by
   cases hf:HK P t i with
   | none=>rw[hf] at hi;cases hi
   | some q=>
    obtain⟨fs',fd,e1,_,e3,e4,e5,_⟩:=uQ hf;rw[hu] at e1;cases e1;unfold vi
    rw[e3,m8,e4,m7,e5];rfl) hw
  rw[hu];simp only;rw[hb,ar,hw];exact⟨_,rfl,by rw[VS];exact⟨_,rfl,kw⟩⟩
 ·rename_i n e hu;obtain⟨s,hs,rfl⟩:=au hq;simp only at h;obtain⟨o,ho,rfl⟩:=au h;obtain⟨w,hw,kw⟩:=tf hp (cY.a z.cells) ho;rw[hu];simp only;rw[hs,m8,hw];exact⟨_,rfl,by rw[VS];exact⟨_,rfl,kw⟩⟩
 ·cases hq
def xV{t:TypeId}{len:Nat}{parts:List (Nat×SV)}{ps:List (Nat×AV)}(hp:SX θ ρ parts ps){q:Nat×List SV}(h:nh P t len parts=some q):∃cs,gI P t len ps=some (q.1,cs)/\cY θ ρ q.2 cs:=by
 unfold nh at h;unfold gI;obtain⟨el,hel,h⟩:=ul h;obtain⟨z,hz,h⟩:=ul h;obtain⟨⟨b1,b2,b3⟩,h⟩:=bY h;obtain⟨o,ho,rfl⟩:=au h;obtain⟨hu,hs⟩:=gj hel;obtain⟨w,hw,kw⟩:=tf hp (cY.a (rep z.cells len)) ho
 have hb0:beq el.2 0=false:=by
  cases hb:beq el.2 0
  ·rfl
  ·exact un (cP hb) b3
 rw[hu];simp only;rw[hs,m8,hz,m8,eY b1,b2,aa,hb0];simp only[aR,ad,ar];rw[hw];exact⟨w,rfl,kw⟩
mutual
def jD:∀{v:SV} {x a:AV},VS θ ρ v x->cN v=some a->x=a
 | .a v,x,a,hv,h=>by rw[VS] at hv;rw[cN] at h;cases h;exact hv
 | .ag cs,x,a,hv,h=>by
  rw[VS] at hv;rw[cN] at h;obtain⟨aS,rfl,h2⟩:=hv;obtain⟨bs,hb,rfl⟩:=au h;rw[oi h2 hb]
 | .any,_,_,_,h=>by simp[cN] at h
 | .sl _ _ _,_,_,_,h=>by simp[cN] at h
 | .im _ _,_,_,_,h=>by simp[cN] at h
 | .ip _,_,_,_,h=>by simp[cN] at h
 | .ptr _ _,_,_,_,h=>by simp[cN] at h
 | .map _,_,_,_,h=>by simp[cN] at h
 | .buf _ _ _ _,_,_,_,h=>by simp[cN] at h
 | .sub _ _ _ _ _,_,_,_,h=>by simp[cN] at h
 | .e0 _,_,_,_,h=>by simp[cN] at h
 | .cm _,_,_,_,h=>by simp[cN] at h
 | .fn _ _ _,_,_,_,h=>by simp[cN] at h
 | .iface t v,x,a,hv,h=>by
  rw[VS] at hv;rw[cN] at h;obtain⟨y,rfl,h2⟩:=hv;obtain⟨b,hb,rfl⟩:=au h;rw[jD h2 hb]
def oi:∀{vs:List SV} {xs aS:List AV},cY θ ρ vs xs->iP vs=some aS->xs=aS
 | [],xs,aS,hv,h=>by rw[bf] at hv;rw[iP] at h;cases h;exact hv
 | d::ds,xs,aS,hv,h=>by
  rw[aK] at hv;rw[iP] at h;obtain⟨a,r,rfl,h1,h2⟩:=hv;obtain⟨b,hb,h⟩:=ul h;obtain⟨bs,hbs,rfl⟩:=au h;rw[jD h1 hb,oi h2 hbs]
end
def tj{kt:TypeId}{k:AV}:∀(l:List (AV×AV×Nat)) (i:Nat),gN P kt k l i=ti P kt k (l.map (·.1)) i
 | [],_=>rfl
 | e::l,i=>by
  rw[am];unfold gN ti
  cases lk P 4 kt k e.1 with
  | none=>rfl
  | some b=>
   cases b
   ·exact tj l (i+1)
   ·rfl
def C0{b:Bool}:∀{l:List SV} {x:SV} {xa:AV} {aS:List AV} {v:SV},VS θ ρ x xa->cY θ ρ l aS->AJ b x l=some v->∃a,np b xa aS=some a/\VS θ ρ v a
 | [],x,xa,aS,v,hx,hl,h=>by
  rw[bf] at hl;subst hl
  have:v=x:=by
   cases x<;>simp only[AJ,rc] at h<;>exact h.symm
  subst this;exact⟨xa,rfl,hx⟩
 | y::l,x,xa,aS,v,hx,hl,h=>by
  rw[aK] at hl;obtain⟨ya,r,rfl,h1,h2⟩:=hl
  cases x with
  | a x=>
   cases y with
   | a y=>
    rw[VS] at hx h1;subst hx;subst h1;simp only[AJ] at h;obtain⟨z,hz,h⟩:=ul h;obtain⟨w,hw,kw⟩:=C0 (x:=.a z) (xa:=z) (by rw[VS]) h2 h;exact⟨w,by simp only[np,hz,m8];exact hw,kw⟩
   | _=>simp[AJ] at h
  | _=>simp[AJ] at h
end
section
variable {θ θ':Nat->Loc} {ρ ρ0:jX} {P:Program}
mutual
def VS.ids(hθ:∀p,(θ' p).id=(θ p).id):∀{v:SV} {x:AV},VS θ ρ v x->VS θ' ρ v x
 | .any,_,_=>by rw[VS];trivial
 | .a v,x,h=>by rw[VS] at h ⊢;exact h
 | .sl n e cs,x,h=>by rw[VS] at h ⊢;exact h
 | .im ks vs,x,h=>by rw[VS] at h ⊢;exact h
 | .ip cs,x,h=>by rw[VS] at h ⊢;exact h
 | .ptr p _,_,h=>by rw[VS] at h ⊢;rw[hθ p];exact h
 | .map p,_,h=>by rw[VS] at h ⊢;rw[hθ p];exact h
 | .buf p _ _ _,_,h=>by rw[VS] at h ⊢;rw[hθ p];exact h
 | .sub p _ _ _ _,_,h=>by rw[VS] at h ⊢;rw[hθ p];exact h
 | .e0 e,x,h=>by rw[VS] at h ⊢;exact h
 | .ag cs,x,h=>by rw[VS] at h ⊢;obtain⟨aS,h1,h2⟩:=h;exact⟨aS,h1,cY.ids hθ h2⟩
 | .cm cs,x,h=>by rw[VS] at h ⊢;obtain⟨aS,h1,h2⟩:=h;exact⟨aS,h1,cY.ids hθ h2⟩
 | .fn g f c,x,h=>by rw[VS] at h ⊢;obtain⟨xs,ys,h1,h2,h3⟩:=h;exact⟨xs,ys,h1,cY.ids hθ h2,cY.ids hθ h3⟩
 | .iface t v,x,h=>by rw[VS] at h ⊢;obtain⟨y,h1,h2⟩:=h;exact⟨y,h1,VS.ids hθ h2⟩
def cY.ids(hθ:∀p,(θ' p).id=(θ p).id):∀{ds:List SV} {aS:List AV},cY θ ρ ds aS->cY θ' ρ ds aS
 | [],aS,h=>by rw[bf] at h ⊢;exact h
 | d::ds,aS,h=>by
  rw[aK] at h ⊢;obtain⟨a,r,h1,h2,h3⟩:=h;exact⟨a,r,h1,VS.ids hθ h2,cY.ids hθ h3⟩
end
def iR{o:Nat}(hθ:∀p,p≠o->θ' p=θ p){v:SV}{x:AV}(h:VS θ ρ v x):VS θ' ρ (aY o v) x:=by
 unfold aY;cases hn:names o v
 ·exact h.ud hθ hn
 ·rw[ar,VS];trivial
def cY.map{g:SV->SV}(hg:∀v x,VS θ ρ v x->VS θ' ρ (g v) x):∀{ds:List SV} {aS:List AV},cY θ ρ ds aS->cY θ' ρ (ds.map g) aS
 | [],aS,h=>by rw[bf] at h;rw[bo,bf];exact h
 | d::ds,aS,h=>by
  rw[aK] at h;rw[am,aK];obtain⟨a,r,h1,h2,h3⟩:=h;exact⟨a,r,h1,hg _ _ h2,cY.map hg h3⟩
def ib(o:Nat):∀(f:Fm) (i:Nat),aP (eK o f) i=aY o (aP f i)
 | [],i=>rfl
 | (d,v)::f,i=>by
  show(if d=i then aY o v else aP (eK o f) i)=aY o (if d=i then v else aP f i);rw[ib o f i];by_cases h:d=i
  ·rw[ut h,ut h]
  ·rw[v6 h,v6 h]
def sq(g:SV->SV):SO->SO
 | .cells cs=>.cells (cs.map g)
 | .map ks vs b=>.map ks (vs.map g) b
 | .iter m bs c pos=>.iter (g m) bs c pos
 | .oT ks vs bs c pos=>.oT ks vs bs c pos
 | .gone=>.gone
 | .loop c ls p f=>.loop c ls p (f.map λq=>(q.1,g q.2))
 | .mC N=>.mC N
def Bp(g:SV->SV):∀(f:Fm) (i:Nat),aP (f.map λq=>(q.1,g q.2)) i=g (aP f i)\/aP (f.map λq=>(q.1,g q.2)) i=.any
 | [],i=>.inr rfl
 | (d,v)::f,i=>by
  show(if d=i then g v else aP (f.map λq=>(q.1,g q.2)) i)=g (if d=i then v else aP f i)\/(if d=i then g v else aP (f.map λq=>(q.1,g q.2)) i)=.any;by_cases h:d=i
  ·rw[ut h,ut h];exact .inl rfl
  ·rw[v6 h,v6 h];exact Bp g f i
def NF(o:Nat):cE o=sq (aY o):=by funext so;cases so<;>rfl
def tw(so:SO):sq (λv=>v) so=so:=by cases so<;>simp[sq]
def BK{g:SV->SV}{so:SO}(h:sq g so≠.gone):so≠.gone:=by intro e;subst e;exact h rfl
def mY.map{g:SV->SV}(hg:∀v x,VS θ ρ v x->VS θ' ρ (g v) x){h h':H}{L:Loc}{so:SO}(hx:mY θ ρ h L so)(ho:h'.aU.get L.id=h.aU.get L.id)(hf:h'.dy.get L.bO=h.dy.get L.bO):mY θ' ρ h' L (sq g so):=by
 cases so with
 | cells cs=>obtain⟨aS,h1,h2,h3⟩:=hx;exact⟨aS,by rw[ho];exact h1,h2.map hg,by rw[hf];exact h3⟩
 | map ks vs b=>obtain⟨l,c,h1,h2,h3⟩:=hx;exact⟨l,c,by rw[ho];exact h1,h2,h3.map hg⟩
 | iter m bs c pos=>obtain⟨jO,h1,h2⟩:=hx;exact⟨jO,hg _ _ h1,by rw[ho];exact h2⟩
 | oT ks vs bs c pos=>obtain⟨jO,l,h1,h2,h3,h4⟩:=hx;exact⟨jO,l,h1,h2,h3,by rw[ho];exact h4⟩
 | gone=>trivial
 | loop c ls p f=>
  obtain⟨h1,h2,h3⟩:=hx;refine⟨h1,by rw[ho];exact h2,λi hi=>?_⟩
  rcases Bp g f i with e | e
  ·rw[e];exact hg _ _ (h3 i hi)
  ·rw[e,VS];trivial
 | mC N=>exact⟨hx.1,by rw[ho];exact hx.2⟩
def xI.symm{L M:Loc}(h:xI L M):xI M L:=⟨h.xx.symm,h.yx.symm,h.xy.symm,h.yy.symm,h.f.symm⟩
def Ej.mono{b:En}{n m:Nat}{L:Loc}(h:Ej b n L)(hn:n<=m):Ej b m L:=⟨h.e,⟨h.x.1,by have:=h.x.2;omega⟩,⟨h.y.1,by have:=h.y.2;omega⟩,⟨h.f.1,by have:=h.f.2;omega⟩⟩
def gC(θ:Nat->Loc)(o:Nat)(L:Loc):Nat->Loc:=λp=>if p=o then L else θ p
def cy(θ:Nat->Loc)(o:Nat)(L:Loc):gC θ o L o=L:=ut rfl
def bQ(θ:Nat->Loc){o p:Nat}(L:Loc)(h:p≠o):gC θ o L p=θ p:=v6 h
def RS.As{h0:En}{h h':H}{S S':List SO}{o:Nat}{so':SO}{L':Loc}{g:SV->SV}(hR:RS θ ρ0 ρ h0 h S)(hnx:h.next<=h'.next)(hob0:∀j,h0.pr j->h'.aU.get j=h.aU.get j)(hfm0:∀j,h0.pf j->h'.dy.get j=h.dy.get j)(hlw:h0.lo<=h'.low)(hln:h'.low<=h'.next)(hL:Ej h0 h'.next L')
 (hg:∀v x,VS θ ρ v x->VS (gC θ o L') ρ (g v) x)
 (hob:∀p so,p≠o->S[p]?=some so->so≠.gone->h'.aU.get (θ p).id=h.aU.get (θ p).id/\h'.dy.get (θ p).bO=h.dy.get (θ p).bO/\xI (θ p) L')
 (hrow:∀id ob,ρ id=some ob->h'.aU.get id=h.aU.get id/\id≠L'.x/\id≠L'.y)
 (hnew:mY (gC θ o L') ρ h' L' so') (hS:∀p,p≠o->S'[p]?=(S[p]?).map (sq g)) (hSo:S'[o]?=some so'):RS (gC θ o L') ρ0 ρ h0 h' S':=by
 have other:∀p so,p≠o->S'[p]?=some so->so≠.gone->∃s,S[p]?=some s/\s≠.gone/\so=sq g s:=by
  intro p so hp h1 h2;rw[hS p hp] at h1;obtain⟨s,hs,rfl⟩:=au h1;exact⟨s,hs,BK h2,rfl⟩
 refine⟨hR.ok,a9 hR.nx hnx,λj hj=>(hob0 j hj).trans (hR.ob j hj),λj hj=>(hfm0 j hj).trans (hR.fm j hj),hlw,hln,?_,?_,?_,hR.mi⟩
 ·intro p so h1 h2;by_cases hp:p=o
  ·subst hp;rw[hSo] at h1;cases h1;rw[cy];exact⟨hL,hnew⟩
  ·obtain⟨s,hs,hsg,rfl⟩:=other p so hp h1 h2;rw[bQ _ _ hp];obtain⟨k1,k2⟩:=hR.obj p s hs hsg;obtain⟨q1,q2,_⟩:=hob p s hp hs hsg;exact⟨k1.mono hnx,k2.map hg q1 q2⟩
 ·intro p q so so' hpq h1 h2 h3 h4;by_cases hp:p=o
  ·subst hp;obtain⟨s,hs,hsg,rfl⟩:=other q so' (λe=>hpq e.symm) h3 h4;rw[cy,bQ _ _ (λe=>hpq e.symm)];exact(hob q s (λe=>hpq e.symm) hs hsg).2.2.symm
  ·obtain⟨s,hs,hsg,rfl⟩:=other p so hp h1 h2;rw[bQ _ _ hp];by_cases hq:q=o
   ·subst hq;rw[cy];exact(hob p s hp hs hsg).2.2
   ·obtain⟨s',hs',hsg',rfl⟩:=other q so' hq h3 h4;rw[bQ _ _ hq];exact hR.sep p q s s' hpq hs hsg hs' hsg'
 ·intro id ob hi;obtain⟨k1,k2,k3⟩:=hR.row id ob hi;obtain⟨q1,q2,q3⟩:=hrow id ob hi;refine⟨aj k1 hnx,by rw[q1];exact k2,?_⟩;intro p so h1 h2;by_cases hp:p=o
  ·subst hp;rw[cy];exact⟨q2,q3⟩
  ·obtain⟨s,hs,hsg,rfl⟩:=other p so hp h1 h2;rw[bQ _ _ hp];exact k3 p s hs hsg
def br{α:Type}{l:List α}{i:Nat}{x:α}(h:l[i]?=some x):i<l.length:=(rt h).1
def rb(o:Nat)(S:List SO)(p:Nat):(ek o S)[p]?=(S[p]?).map (sq (aY o)):=by
 unfold ek;rw[NF,a6]
def RS.new{h0:En}{h:H}{S:List SO}{so:SO}{ob:AO}(hR:RS θ ρ0 ρ h0 h S)(hob:(∃cs aS,so=.cells cs/\ob=.cells aS h.next/\cY θ ρ cs aS)\/(so=.map [] [] none/\ob=.map [] 0)):
 RS (gC θ S.length ⟨h.next,h.next,h.next,h.next⟩) ρ0 ρ h0 { h.lay h.next ob with next:=h.next+1 } (fW S so)/\∀v x,VS θ ρ v x->VS (gC θ S.length ⟨h.next,h.next,h.next,h.next⟩) ρ (aY S.length v) x:=by
 have hg:∀v x,VS θ ρ v x->VS (gC θ S.length ⟨h.next,h.next,h.next,h.next⟩) ρ (aY S.length v) x:=λv x hv=>iR (λp hp=>bQ _ _ hp) hv;refine⟨?_,hg⟩;have hb:=hR.nx;have hpr:∀j,h0.pr j->j<h.next:=λj hj=>aj (hR.ok.pr j hj) hb;have hpf:∀j,h0.pf j->j<h.next:=λj hj=>aj (hR.ok.pf j hj) hb
 have hobj:∀j,j<h.next->({ h.lay h.next ob with next:=h.next+1 }:H).aU.get j=h.aU.get j:=by
  intro j hj
  rcases hob with⟨cs,aS,_,rfl,_⟩ | ⟨_,rfl⟩<;>exact bp _ _ i5
 have hfam:∀j,j<h.next->({ h.lay h.next ob with next:=h.next+1 }:H).dy.get j=h.dy.get j:=by
  intro j hj
  rcases hob with⟨cs,aS,_,rfl,_⟩ | ⟨_,rfl⟩
  ·exact bp _ _ i5
  ·rfl
 have hlow:({ h.lay h.next ob with next:=h.next+1 }:H).low=h.low:=by
  rcases hob with⟨cs,aS,_,rfl,_⟩ | ⟨_,rfl⟩<;>rfl
 refine hR.As (g:=aY S.length) (so':=cE S.length so) (by show h.next<=h.next+1;omega) (λj hj=>hobj j (hpr j hj)) (λj hj=>hfam j (hpf j hj)) (by rw[hlow];exact hR.lw) (by rw[hlow];exact cp hR.ln) ⟨.inl rfl,⟨λhj=>cd _ (hpr _ hj),bt _⟩,⟨λhj=>cd _ (hpr _ hj),bt _⟩,⟨λhj=>cd _ (hpf _ hj),bt _⟩⟩ hg ?_ ?_ ?_ ?_ ?_
 ·intro p s hp hs hsg;obtain⟨⟨k1,k2,k3,k4⟩,_⟩:=hR.obj p s hs hsg;refine⟨hobj _ (by rcases k1 with e | e<;>omega),hfam _ k4.2,⟨?_,?_,?_,?_,?_⟩⟩<;>(simp only;omega)
 ·intro id ob' hi;have:=(hR.row id ob' hi).1;exact⟨hobj id this,by simp only;omega,by simp only;omega⟩
 ·rcases hob with⟨cs,aS,rfl,rfl,hv⟩ | ⟨rfl,rfl⟩
  ·exact⟨aS,cV _ _ _,hv.map hg,cV _ _ _⟩
  ·exact⟨[],0,cV _ _ _,⟨rfl,⟨List.nodup_nil,λe he=>by simp at he⟩,λp hp=>by cases hp⟩,by rw[bo,bo,bf]⟩
 ·intro p hp;unfold fW
  have hl:(ek S.length S).length=S.length:=by unfold ek;rw[a0]
  rw[cn];split
  ·exact rb _ _ _
  ·rename_i hlt;rw[hl] at hlt ⊢;have:S[p]?=none:=a7 i5;rw[this,a7 (by simp;omega)];rfl
 ·unfold fW
  have hl:(ek S.length S).length=S.length:=by unfold ek;rw[a0]
  rw[b6 i5,hl,Nat.sub_self];rfl
def oW{h:H}{id bO x y:Nat}(hf:h.dy.get bO=some (x,y)){j:Nat}(hj:j≠bO):(h.alone id bO).dy.get j=h.dy.get j:=by
 unfold H.alone;rw[hf];simp only;cases beq x id&&beq y id
 ·exact bp _ _ hj
 ·rfl
def ns{a b c:Nat}(h1:c<=a)(h2:c<=b):c<=gQ a b:=by
 unfold gQ;cases ble a b
 ·exact h2
 ·exact h1
def Bh{h:H}{id bO x y b:Nat}(hf:h.dy.get bO=some (x,y))(hx:b<=x)(hy:b<=y)(hb:b<=h.low)(hn:h.low<=h.next):b<=(h.alone id bO).low/\(h.alone id bO).low<=h.next:=by
 unfold H.alone;rw[hf];simp only;cases beq x id&&beq y id
 ·exact⟨ns hb (ns hx hy),a9 (dK _ _).1 hn⟩
 ·exact⟨hb,hn⟩
def RS.store{h0:En}{h:H}{S:List SO}{o:Nat}{cs vs:List SV}{off:Nat}{xs:List AV}(hR:RS θ ρ0 ρ h0 h S)(hS:S[o]?=some (.cells cs))(hv:cY θ ρ vs xs)(hone:xs.all jS=true)(hle:off+vs.length<=cs.length):
 ∃h',h.store (θ o).id off xs=some h'/\RS (gC θ o ⟨(θ o).id,(θ o).bO,(θ o).id,(θ o).id⟩) ρ0 ρ h0 h' (S.set o (.cells (cs.take off++(vs++cs.drop (off+vs.length)))))/\∀v x,VS θ ρ v x->VS (gC θ o ⟨(θ o).id,(θ o).bO,(θ o).id,(θ o).id⟩) ρ v x:=by
 have hg:∀v x,VS θ ρ v x->VS (gC θ o ⟨(θ o).id,(θ o).bO,(θ o).id,(θ o).id⟩) ρ v x:=λv x hv=>hv.ids λp=>by
  by_cases hp:p=o
  ·subst hp;rw[cy]
  ·rw[bQ _ _ hp]
 obtain⟨⟨k1,k2,k3,k4⟩,aS,q1,q2,q3⟩:=hR.obj o _ hS g9;have a2:(h.alone (θ o).id (θ o).bO).next=h.next:=(r8 (Z:=0) (id:=(θ o).id) q3 (bb _) (bb _) (bb _)).2;have px:∀j,h0.pr j->j≠(θ o).x:=λj hj e=>k2.1 (e▸hj);have py:∀j,h0.pr j->j≠(θ o).y:=λj hj e=>k3.1 (e▸hj)
 have pi:∀j,h0.pr j->j≠(θ o).id:=λj hj=>by rcases k1 with e | e<;>rw[e];exact px j hj;exact py j hj
 have pfm:∀j,h0.pf j->j≠(θ o).bO:=λj hj e=>k4.1 (e▸hj)
 have lid:h0.lo<=(θ o).id:=by rcases k1 with e | e<;>rw[e];exact hR.ok.lo _ k2.1;exact hR.ok.lo _ k3.1
 have hidn:(θ o).id<h.next:=by rcases k1 with e | e<;>rw[e];exact k2.2;exact k3.2
 have al:=Bh (id:=(θ o).id) q3 (hR.ok.lo _ k2.1) (hR.ok.lo _ k3.1) hR.lw hR.ln;have hl:=q2.length;have hlx:=hv.length;refine⟨{ h.alone (θ o).id (θ o).bO with aU:=(h.alone (θ o).id (θ o).bO).aU.put (θ o).id (some (.cells (aS.take off++(xs++aS.drop (off+xs.length))) (θ o).bO)),low:=gQ (h.alone (θ o).id (θ o).bO).low (θ o).id },?_,?_,hg⟩
 ·unfold H.store;rw[q1];simp only;rw[eY (show off+xs.length<=aS.length by omega),hone];rfl
 ·refine hR.As (g:=λv=>v) (so':=.cells (cs.take off++(vs++cs.drop (off+vs.length)))) (by show h.next<=(h.alone _ _).next;omega) (λj hj=>?_) (λj hj=>oW q3 (pfm j hj)) (ns al.1 lid) ?_ ⟨.inl rfl,⟨λhj=>pi _ hj rfl,?_⟩,⟨λhj=>pi _ hj rfl,?_⟩,⟨k4.1,?_⟩⟩ hg ?_ ?_ ?_ ?_ ?_
  ·show(Tr.put _ _ _).get j=_;rw[bp _ _ (pi j hj)];exact jY q3 (px j hj) (py j hj)
  ·show gQ (h.alone _ _).low _<=(h.alone _ _).next;rw[a2];exact a9 (dK _ _).1 al.2
  ·show(θ o).id<(h.alone _ _).next;rw[a2];exact hidn
  ·show(θ o).id<(h.alone _ _).next;rw[a2];exact hidn
  ·show(θ o).bO<(h.alone _ _).next;rw[a2];exact k4.2
  ·intro p s hp hs hsg;have sp:=hR.sep p o s _ hp hs hsg hS g9;obtain⟨⟨j1,j2,j3,j4⟩,_⟩:=hR.obj p s hs hsg
   have e1:(θ p).id≠(θ o).x:=by rcases j1 with e | e<;>rw[e];exact sp.xx;exact sp.yx
   have e2:(θ p).id≠(θ o).y:=by rcases j1 with e | e<;>rw[e];exact sp.xy;exact sp.yy
   refine⟨?_,oW q3 sp.f,⟨?_,?_,?_,?_,sp.f⟩⟩
   ·show(Tr.put _ _ _).get _=_;rw[bp _ _ (by rcases k1 with e | e<;>rw[e]<;>assumption)];exact jY q3 e1 e2
   ·simp only;rcases k1 with e | e<;>rw[e];exact sp.xx;exact sp.xy
   ·simp only;rcases k1 with e | e<;>rw[e];exact sp.xx;exact sp.xy
   ·simp only;rcases k1 with e | e<;>rw[e];exact sp.yx;exact sp.yy
   ·simp only;rcases k1 with e | e<;>rw[e];exact sp.yx;exact sp.yy
  ·intro id ob hi;obtain⟨_,_,r3⟩:=hR.row id ob hi;obtain⟨e1,e2⟩:=r3 o _ hS g9
   have e3:id≠(θ o).id:=by rcases k1 with e | e<;>rw[e]<;>assumption
   refine⟨?_,e3,e3⟩;show(Tr.put _ _ _).get _=_;rw[bp _ _ e3];exact jY q3 e1 e2
  ·refine⟨_,cV _ _ _,?_,Bg q3⟩
   have hw:cY θ ρ (cs.take off++(vs++cs.drop (off+vs.length))) (aS.take off++(xs++aS.drop (off+xs.length))):=by
    rw[hlx];exact(q2.take off).app (hv.app (q2.drop (off+vs.length)))
   have:=hw.map hg;rw[List.map_id'] at this;exact this
  ·intro p hp;rw[a3 (λe=>hp e.symm)]
   cases S[p]? with
   | none=>rfl
   | some s=>rw[m7,tw]
  ·rw[ay (br hS)]
def RS.R8{h0:En}{h:H}{S:List SO}{o:Nat}{ks ks':List AV}{vs vs':List SV}{l':List (AV×AV×Nat)}{c':Nat}{b b':Option (List Nat×Nat)}(hR:RS θ ρ0 ρ h0 h S)(hS:S[o]?=some (.map ks vs b))(h1:Pd l' c' ks' b')(h2:cY θ ρ vs' (l'.map (·.2.1))):
 RS θ ρ0 ρ h0 (h.set (θ o).id (.map l' c')) (S.set o (.map ks' vs' b')):=by
 obtain⟨⟨k1,k2,k3,k4⟩,l,c,q1,q2,q3⟩:=hR.obj o _ hS g9
 have heq:gC θ o (θ o)=θ:=by
  funext p;unfold gC;split
  ·rename_i e;rw[e]
  ·rfl
 have hg:∀v x,VS θ ρ v x->VS (gC θ o (θ o)) ρ v x:=λv x hv=>by rw[heq];exact hv
 have pi:∀j,h0.pr j->j≠(θ o).id:=λj hj e=>by rcases k1 with e' | e'<;>rw[e'] at e;exact k2.1 (e▸hj);exact k3.1 (e▸hj)
 have lid:h0.lo<=(θ o).id:=by rcases k1 with e | e<;>rw[e];exact hR.ok.lo _ k2.1;exact hR.ok.lo _ k3.1
 have:=hR.As (g:=λv=>v) (h':=h.set (θ o).id (.map l' c')) (S':=S.set o (.map ks' vs' b')) (so':=.map ks' vs' b') (L':=θ o) (b7 _) (λj hj=>bp _ _ (pi j hj)) (λj hj=>rfl) (ns hR.lw lid) (a9 (dK _ _).1 hR.ln) ⟨k1,k2,k3,k4⟩ hg ?_ ?_ ?_ ?_ ?_
 ·rw[heq] at this;exact this
 ·intro p s hp hs hsg;have sp:=hR.sep p o s _ hp hs hsg hS g9;obtain⟨⟨j1,j2,j3,j4⟩,_⟩:=hR.obj p s hs hsg;refine⟨bp _ _ ?_,rfl,sp⟩
  rcases j1 with e | e<;>rcases k1 with e' | e'<;>rw[e,e']
  ·exact sp.xx
  ·exact sp.xy
  ·exact sp.yx
  ·exact sp.yy
 ·intro id ob hi;obtain⟨_,_,r3⟩:=hR.row id ob hi;obtain⟨e1,e2⟩:=r3 o _ hS g9;exact⟨bp _ _ (by rcases k1 with e | e<;>rw[e]<;>assumption),e1,e2⟩
 ·rw[heq];exact⟨l',c',cV _ _ _,h1,h2⟩
 ·intro p hp;rw[a3 (λe=>hp e.symm)]
  cases S[p]? with
  | none=>rfl
  | some s=>rw[m7,tw]
 ·rw[ay (br hS)]
def RS.fork{h0:En}{h:H}{S:List SO}{o n:Nat}{cs vs:List SV}{xs aS:List AV}(hR:RS θ ρ0 ρ h0 h S)(hS:S[o]?=some (.cells cs))(hv:cY θ ρ vs xs)(has:h.aU.get (θ o).id=some (.cells aS (θ o).bO))(hle:n<=cs.length):
 (h.alone (θ o).id (θ o).bO).next=h.next/\RS (gC θ o ⟨h.next,(θ o).bO,(θ o).id,h.next⟩) ρ0 ρ h0 (h.en (θ o).id (θ o).bO (aS.take n) ((aS.drop 0).take n++xs)) ((ek o S).set o (cE o (.cells (cs.take n++vs))))/\∀v x,VS θ ρ v x->VS (gC θ o ⟨h.next,(θ o).bO,(θ o).id,h.next⟩) ρ (aY o v) x:=by
 have hg:∀v x,VS θ ρ v x->VS (gC θ o ⟨h.next,(θ o).bO,(θ o).id,h.next⟩) ρ (aY o v) x:=λv x hv=>iR (λp hp=>bQ _ _ hp) hv;obtain⟨⟨k1,k2,k3,k4⟩,as',q1,q2,q3⟩:=hR.obj o _ hS g9;rw[has] at q1;cases q1;have a2:(h.alone (θ o).id (θ o).bO).next=h.next:=(r8 (Z:=0) (id:=(θ o).id) q3 (bb _) (bb _) (bb _)).2;have px:∀j,h0.pr j->j≠(θ o).x:=λj hj e=>k2.1 (e▸hj);have py:∀j,h0.pr j->j≠(θ o).y:=λj hj e=>k3.1 (e▸hj)
 have pi:∀j,h0.pr j->j≠(θ o).id:=λj hj=>by rcases k1 with e | e<;>rw[e];exact px j hj;exact py j hj
 have pfm:∀j,h0.pf j->j≠(θ o).bO:=λj hj e=>k4.1 (e▸hj)
 have lid:h0.lo<=(θ o).id:=by rcases k1 with e | e<;>rw[e];exact hR.ok.lo _ k2.1;exact hR.ok.lo _ k3.1
 have hidn:(θ o).id<h.next:=by rcases k1 with e | e<;>rw[e];exact k2.2;exact k3.2
 have al:=Bh (id:=(θ o).id) q3 (hR.ok.lo _ k2.1) (hR.ok.lo _ k3.1) hR.lw hR.ln;have hid:(θ o).id<h.next:=hidn;have hb:=hR.nx;have hprn:∀j,h0.pr j->j<h.next:=λj hj=>aj (hR.ok.pr j hj) hb;refine⟨a2,?_,hg⟩;refine hR.As (g:=aY o) (so':=cE o (.cells (cs.take n++vs))) (by show h.next<=(h.alone _ _).next+1;omega) (λj hj=>?_) (λj hj=>?_) ?_ ?_ ⟨.inr rfl,⟨λhj=>pi _ hj rfl,?_⟩,⟨λhj=>cd _ (hprn _ hj),?_⟩,⟨k4.1,?_⟩⟩ hg ?_ ?_ ?_ ?_ ?_
 ·simp only[H.en];rw[a2,bp _ _ (by have:=hprn j hj;omega),bp _ _ (pi j hj)];exact jY q3 (px j hj) (py j hj)
 ·simp only[H.en];rw[bp _ _ (pfm j hj)];exact oW q3 (pfm j hj)
 ·simp only[H.en];exact ns al.1 lid
 ·simp only[H.en];rw[a2];exact cp (a9 (dK _ _).1 al.2)
 ·simp only[H.en,a2];omega
 ·simp only[H.en,a2];omega
 ·simp only[H.en,a2];have:=k4.2;omega
 ·intro p s hp hs hsg;have sp:=hR.sep p o s _ hp hs hsg hS g9;obtain⟨⟨j1,j2,j3,j4⟩,_⟩:=hR.obj p s hs hsg
  have e1:(θ p).id≠(θ o).x:=by rcases j1 with e | e<;>rw[e];exact sp.xx;exact sp.yx
  have e2:(θ p).id≠(θ o).y:=by rcases j1 with e | e<;>rw[e];exact sp.xy;exact sp.yy
  have e3:(θ p).id<h.next:=by rcases j1 with e | e<;>omega
  refine⟨?_,?_,⟨?_,?_,?_,?_,sp.f⟩⟩
  ·simp only[H.en];rw[a2,bp _ _ i5,bp _ _ (by rcases k1 with e | e<;>rw[e]<;>assumption)];exact jY q3 e1 e2
  ·simp only[H.en];rw[bp _ _ sp.f];exact oW q3 sp.f
  ·simp only;rcases k1 with e | e<;>rw[e];exact sp.xx;exact sp.xy
  ·simp only;omega
  ·simp only;rcases k1 with e | e<;>rw[e];exact sp.yx;exact sp.yy
  ·simp only;omega
 ·intro id ob hi;obtain⟨r1,_,r3⟩:=hR.row id ob hi;obtain⟨e1,e2⟩:=r3 o _ hS g9
  have e3:id≠(θ o).id:=by rcases k1 with e | e<;>rw[e]<;>assumption
  refine⟨?_,e3,by simp only;omega⟩;simp only[H.en];rw[a2,bp _ _ i5,bp _ _ e3];exact jY q3 e1 e2
 ·refine⟨_,?_,((q2.take n).app hv).map hg,?_⟩
  ·simp only[H.en];rw[a2,cV,bJ]
  ·simp only[H.en];rw[cV,a2]
 ·intro p hp;rw[a3 (λe=>hp e.symm)];exact rb _ _ _
 ·rw[ay (by unfold ek;rw[a0];exact br hS)]
end
section
variable {θ θ':Nat->Loc} {ρ ρ0:jX} {P:Program}
def Ga{h0:En}{h:H}{S:List SO}(hR:RS θ ρ0 ρ h0 h S){id:Nat}{row:List AV}(hr:vn ρ id=some row):rI h.aU id=some row:=by
 unfold vn at hr
 cases ho:ρ id with
 | none=>rw[ho] at hr;cases hr
 | some ob=>
  have:=(hR.row id ob ho).2.1;rw[ho] at hr;unfold rI;rw[this]
  cases ob<;>first | exact hr | (cases hr;done)
def Ft{h0:En}{h:H}{S:List SO}(hR:RS θ ρ0 ρ h0 h S){tt:TypeId}{a:SV}{x:AV}(ha:VS θ ρ a x){v:SV}(hl:yJ P S tt a=some v):∃y,CU P h tt (some x)=some y/\VS θ ρ v y:=by
 unfold yJ at hl;split at hl
 ·rename_i o off;rw[VS] at ha;subst ha;split at hl
  ·rename_i cs hS;obtain⟨_,aS,q1,q2,_⟩:=hR.obj o _ hS g9;obtain⟨y,k1,k2⟩:=tF q2 hl;exact⟨y,by rw[BI,BH (aS:=aS) (by unfold rI;rw[q1];rfl)];exact k1,k2⟩
  ·cases hl
 ·rename_i cs;rw[VS,GS] at ha;obtain⟨id,off,row,r,rfl,h2,h3,h4⟩:=ha;obtain⟨y,k1,k2⟩:=tF (h4.vs (θ:=θ)) hl;refine⟨y,?_,k2⟩;rw[BI,BH (Ga hR h2)];have:=LB h3 k1;rw[Nat.add_zero] at this;exact this
 ·cases hl
def LP{h0:En}{h:H}{S S':List SO}(hR:RS θ ρ0 ρ h0 h S){tt:TypeId}{a v:SV}{x y:AV}(ha:VS θ ρ a x)(hv:VS θ ρ v y)(hs:Dk P S tt a v=some S'):
 ∃h' θ',Dj P h tt (some x) (some y)=some h'/\RS θ' ρ0 ρ h0 h' S'/\∀v x,VS θ ρ v x->VS θ' ρ v x:=by
 unfold Dk at hs;split at hs
 ·rename_i o off;rw[VS] at ha;subst ha;split at hs
  ·rename_i cs hS;obtain⟨⟨n,_⟩,hq,hs⟩:=ul hs;obtain⟨vs,hvs,hs⟩:=ul hs;obtain⟨⟨b1,b2,b3⟩,hs⟩:=bY hs;cases hs;have hn:=(uu hq).2;simp only at b1 b2 hn;have kv:=uK hv hvs;subst b1;obtain⟨h',e1,e2,e3⟩:=hR.store hS kv (ma kv b3) b2;refine⟨h',_,?_,e2,e3⟩;rw[It];unfold H.storeVar;rw[hn,m8,kv.length,aa,ar];exact e1
  ·cases hs
 ·cases hs
def Qx{P:Program}{t:Tr AV}{h:H}{nm:String}{first cap:Array Operand}:ep P t h (.makeFunc (.method nm) first cap)=((Az t first.toList).bind λa=>(Az t cap.toList).map λb=>AV.fn (.method nm) a b).map λv=>[(some v,h)]:=rfl
def P8{v w:SV}{x:AV}(hv:VS θ ρ v x)(h:bG P v=some w):oG P x=some x/\w=v:=by
 cases v with
 | ptr o off=>simp only[bG,rc] at h;rw[VS] at hv;subst hv;exact⟨rfl,h.symm⟩
 | ip cs=>simp only[bG,rc] at h;rw[VS,GS] at hv;obtain⟨id,off,row,r,rfl,_⟩:=hv;exact⟨rfl,h.symm⟩
 | fn g a b=>simp only[bG,rc] at h;rw[VS] at hv;obtain⟨xs,ys,rfl,_⟩:=hv;exact⟨rfl,h.symm⟩
 | sl n e cs=>simp only[bG,rc] at h;rw[VS,GS] at hv;rcases hv with⟨_,_,o,e',c,rfl,_,_⟩ | ⟨id,off,cap,row,rfl,_⟩<;>exact⟨rfl,h.symm⟩
 | buf o n e c=>simp only[bG,rc] at h;rw[VS] at hv;subst hv;exact⟨rfl,h.symm⟩
 | sub o off n e c=>simp only[bG,rc] at h;rw[VS] at hv;subst hv;exact⟨rfl,h.symm⟩
 | e0 e=>simp only[bG,rc] at h;rw[VS] at hv;obtain⟨o,e',rfl,_⟩:=hv;exact⟨rfl,h.symm⟩
 | a u=>
  unfold bG at h;split at h
  case h_8 hu=>
   cases hu;obtain⟨g,hg,rfl⟩:=au h;rw[VS] at hv;subst hv;refine⟨?_,rfl⟩;unfold oG;simp only[hg,m7]
  all_goals first | (cases h;done) | (rename_i hu;cases hu;done)
 | _=>simp[bG] at h
def KH{a b:Nat}(h:a<b):Nat.blt a b=true:=by rw[Nat.blt_eq];exact h
def JR{cs:List SV}{x:AV}{k:Nat}(hv:GS ρ (.ip cs) x)(hk:k<=cs.length):∃id off row,x=.ptr (some (id,off))/\vn ρ id=some row/\GS ρ (.ip (cs.drop k)) (.ptr (some (id,off+k))):=by
 rw[GS] at hv;obtain⟨id,off,row,r,rfl,h2,h3,h4⟩:=hv;refine⟨id,off,row,rfl,h2,?_⟩;have hl:=h4.length;rw[ch,bd] at hl;rw[GS];refine⟨id,off+k,row,r-k,rfl,h2,by omega,?_⟩;have:=h4.drop k;rw[cb,a4] at this;exact this
def AA{s:TypeId}{v w:SV}{x:AV}{fl:Nat}(hv:VS θ ρ v x)(h:pg P s v fl=some w):∃y,jh P s x fl=some y/\VS θ ρ w y:=by
 unfold pg at h;obtain⟨q,hq,h⟩:=ul h;obtain⟨hn0,h⟩:=bY h;obtain⟨fs,fd,hu,_,hfd,hn,e1,_⟩:=uQ hq
 have hb:beq q.2.2 0=false:=by
  cases hb:beq q.2.2 0
  ·rfl
  ·exact un (cP hb) hn0
 cases v with
 | ptr o off=>
  simp only at h;cases h;rw[VS] at hv;subst hv;unfold jh;rw[hu];simp only;rw[hfd,m8,hn,m8,hb,az,e1];exact⟨_,rfl,by rw[VS]⟩
 | ip cs=>
  simp only at h;obtain⟨hk,h⟩:=bY h;cases h;rw[VS] at hv;obtain⟨id,off,row,rfl,_,h2⟩:=JR hv hk;unfold jh;rw[hu];simp only;rw[hfd,m8,hn,m8,hb,az,e1];exact⟨_,rfl,by rw[VS];exact h2⟩
 | _=>simp at h
def K8{s:TypeId}{v w:SV}{x:AV}{fl:Nat}(hv:VS θ ρ v x)(h:yi P s v fl=some w):∃y,uN P s x fl=some y/\VS θ ρ w y:=by
 cases v with
 | ag cs=>
  simp only[yi] at h;rw[VS] at hv;obtain⟨aS,rfl,hv⟩:=hv;obtain⟨q,hq,h⟩:=ul h;obtain⟨fs,fd,hu,_,hfd,hn,e1,e2⟩:=uQ hq;obtain⟨y,k1,k2⟩:=tF hv h;unfold uN;rw[hu];simp only;rw[hfd,m8,e1,e2];exact⟨y,k1,k2⟩
 | _=>simp[yi] at h
def C3{v:SV}{x:AV}{i:Nat}(hv:VS θ ρ v x)(h:H5 v=some i):c7 x=some i:=by
 cases v with
 | a v=>rw[VS] at hv;subst hv;exact h
 | _=>simp[H5] at h
def AD{t:TypeId}{v w iv:SV}{x ix:AV}(hv:VS θ ρ v x)(hi:VS θ ρ iv ix)(h:pq P t v iv=some w):∃y,kc P t x ix=some y/\VS θ ρ w y:=by
 unfold pq at h;obtain⟨i,hin,h2⟩:=ul h;clear h;unfold kc;rw[C3 hi hin,m8]
 cases har:Q5 P t with
 | some q=>
  rw[har] at h2;simp only at h2;obtain⟨hu,hs⟩:=Es har;obtain⟨hlt,h⟩:=bY h2;rw[hu];have hlb:blt i q.1=true:=KH hlt
  cases v with
  | ptr o off=>
   simp only at h;cases h;rw[VS] at hv;subst hv;simp only;rw[hs,m8,hlb,ar];exact⟨_,rfl,by rw[VS]⟩
  | ip cs=>
   simp only at h;obtain⟨hk,h⟩:=bY h;cases h;rw[VS] at hv;obtain⟨id,off,row,rfl,_,h2⟩:=JR hv hk;simp only;rw[hs,m8,hlb,ar];exact⟨_,rfl,by rw[VS];exact h2⟩
  | _=>simp at h
 | none=>
  rw[har] at h2;simp only at h2;obtain⟨q,hq,h⟩:=ul h2;obtain⟨hu,hs⟩:=gj hq;obtain⟨e,s⟩:=q;simp only at hu hs h;rw[hu]
  cases v with
  | sl n es cs=>
   simp only at h;obtain⟨⟨hlt,hse⟩,h⟩:=bY h;cases h;subst hse;have hlb:blt i n=true:=KH hlt;rw[VS,GS] at hv
   rcases hv with⟨h1,_⟩ | ⟨id,off,cap,row,rfl,h2,h3,h4⟩
   ·omega
   ·simp only;rw[hs,m8,hlb,aa,ad,ar];refine⟨_,rfl,?_⟩
    have hms:i*s+s<=n*s:=by
     have:=a8 s (show i+1<=n by omega);rw[d3] at this;exact this
    rw[VS,GS];refine⟨id,off+i*s,row,s,rfl,h2,by omega,?_⟩;have:=(h4.drop (i*s)).take s;rw[cb,a4,cc,be i5] at this;exact this
  | buf o n es c=>
   simp only at h;obtain⟨⟨hlt,hse⟩,h⟩:=bY h;cases h;subst hse;have hlb:blt i n=true:=KH hlt;rw[VS] at hv;subst hv;simp only;rw[hs,m8,hlb,aa,ad,ar];exact⟨_,rfl,by rw[VS,ba]⟩
  | sub o off n es c=>
   simp only at h;obtain⟨⟨hlt,hse⟩,h⟩:=bY h;cases h;subst hse;have hlb:blt i n=true:=KH hlt;rw[VS] at hv;subst hv;simp only;rw[hs,m8,hlb,aa,ad,ar];exact⟨_,rfl,by rw[VS]⟩
  | _=>simp at h
def Lc{t:TypeId}{v w iv:SV}{x ix:AV}(hv:VS θ ρ v x)(hi:VS θ ρ iv ix)(h:CN P t v iv=some w):∃y,uT P t x ix=some y/\VS θ ρ w y:=by
 unfold CN at h;obtain⟨i,hin,h2⟩:=ul h;clear h;unfold uT;rw[C3 hi hin,m8]
 cases v with
 | ag cs=>
  simp only at h2;obtain⟨q,hq,h⟩:=ul h2;obtain⟨hu,hs⟩:=Es hq;obtain⟨hlt,h⟩:=bY h;rw[hu];rw[VS] at hv;obtain⟨aS,rfl,hv⟩:=hv;simp only;rw[hs,m8,KH hlt,ar];exact tF hv h
 | a v=>
  cases v with
  | str s=>
   simp only at h2
   cases hk:iS P t with
   | str=>
    rw[hk] at h2;simp only at h2;rw[yH hk];rw[VS] at hv;subst hv;simp only;obtain⟨b,hb,rfl⟩:=au h2;rw[hb];exact⟨_,rfl,by rw[VS]⟩
   | _=>rw[hk] at h2;cases h2
  | _=>simp at h2
 | _=>simp at h2
def LN{h:H}{t:TypeId}{v w:SV}{x:AV}{lo hi mx:Option AV}(hv:VS θ ρ v x)(h1:mR P t v lo hi mx=some w):∃y,vq P h t x lo hi mx=some y/\VS θ ρ w y:=by
 unfold mR at h1;unfold vq;split at h1
 ·rename_i s hk;rw[yH hk];rw[VS] at hv;subst hv
  cases mx with
  | some _=>cases h1
  | none=>
   simp only at h1 ⊢;obtain⟨b,hb,rfl⟩:=au h1;rw[hb];exact⟨_,rfl,by rw[VS]⟩
 ·rename_i n es cs hk
  cases mx with
  | some m=>
   simp only at h1;obtain⟨⟨e,s⟩,hq,h1⟩:=ul h1;obtain⟨hu,hs⟩:=gj hq;simp only at hu hs h1;rw[hu];obtain⟨⟨rfl,h2,h3,h4⟩,h5⟩:=bY h1;cases h5;subst h4;obtain⟨hv0,rfl,h2⟩:=ul h2
   have hb:∀cap,cK n cap none (some hv0) (some m)=some (0,0,some 0):=by
    intro cap;unfold cK;simp only;have h2':c7 hv0=some 0:=h2
    have hf:pQ n cap 0=true:=by unfold pQ;rw[eY (bb n)];rfl
    rw[h3,m8,hf,ar,h2'];rfl
   rw[VS,GS] at hv
   rcases hv with⟨rfl,rfl,o,e',c,rfl,ho,hoe⟩ | ⟨id,off,cap,row,rfl,h6,h7,h8⟩
   ·simp only;rw[hs,m8,hb,m8];simp only
    cases o with
    | none=>exact⟨_,rfl,by rw[VS];exact⟨none,0,rfl,λh=>un rfl h⟩⟩
    | some q=>
     obtain⟨id,off⟩:=q;rw[hoe gt];simp only;rw[aa,ar];exact⟨_,rfl,by rw[VS];exact⟨_,_,rfl,λ_=>rfl⟩⟩
   ·simp only;rw[hs,m8,hb,m8];simp only;rw[aa,ar];exact⟨_,rfl,by rw[VS];exact⟨_,_,rfl,λ_=>rfl⟩⟩
  | none=>
   simp only at h1;obtain⟨⟨e,s⟩,hq,h1⟩:=ul h1;obtain⟨hu,hs⟩:=gj hq;simp only at hu hs;rw[hu];obtain⟨⟨l,hh,m⟩,hb,h1⟩:=ul h1;obtain⟨hse,h1⟩:=bY h1;cases h1;simp only at hse;subst hse
   have hbd:∀cap,(cK n cap lo hi none=some (l,hh,cap))/\l<=hh/\hh<=n:=by
    intro cap;unfold cK at hb ⊢;simp only at hb ⊢;obtain⟨q,hq,hb⟩:=ul hb
    have hq2:ou n cap hi=some q/\q<=n:=by
     cases hi with
     | none=>simp only[ou,rc] at hq ⊢;exact⟨hq,by omega⟩
     | some hv=>
      simp only[ou] at hq ⊢;obtain⟨k,hk,hq⟩:=ul hq;obtain⟨hf,hq⟩:=aG hq;cases hq;simp only[pQ,d0] at hf;rw[hk,m8];unfold pQ;rw[hf,co,ar];exact⟨rfl,jg hf⟩
    rw[hq2.1,m8]
    cases lo with
    | none=>simp only[rc,m9] at hb ⊢;obtain⟨rfl,rfl,_⟩:=hb;exact⟨by simp,bb _,hq2.2⟩
    | some lv=>
     simp only at hb ⊢;obtain⟨k,hk,hb⟩:=ul hb;obtain⟨hf,hb⟩:=aG hb;simp only[rc,m9] at hb;obtain⟨rfl,rfl,_⟩:=hb;rw[hk,m8,hf,ar];exact⟨by simp,jg hf,hq2.2⟩
   rw[VS,GS] at hv
   rcases hv with⟨rfl,rfl,o,e',c,rfl,ho,hoe⟩ | ⟨id,off,cap,row,rfl,h2,h3,h4⟩
   ·obtain⟨b1,b2,b3⟩:=hbd c
    have hl0:l=0:=by omega
    have hh0:hh=0:=by omega
    subst hl0;subst hh0;simp only;rw[hs,m8,b1,m8];simp only
    cases o with
    | none=>
     exact⟨_,rfl,by rw[VS,GS];exact .inl ⟨rfl,by simp,none,0,some 0,rfl,λ_=>rfl,λh=>un rfl h⟩⟩
    | some q=>
     obtain⟨id,off⟩:=q;rw[hoe gt];simp only;rw[aa,ar];exact⟨_,rfl,by rw[VS,GS];exact .inl ⟨rfl,by simp,_,_,_,rfl,λh=>(by cases h),λ_=>rfl⟩⟩
   ·obtain⟨b1,b2,b3⟩:=hbd cap;simp only;rw[hs,m8,b1,m8];simp only;rw[aa,ar];refine⟨_,rfl,?_⟩;rw[VS,GS];have m1:l*s<=hh*s:=a8 s b2;have m2:hh*s<=n*s:=a8 s b3;refine .inr ⟨id,off+l*s,bT cap l,row,rfl,h2,by rw[Nat.sub_mul];omega,?_⟩;have:=(h4.drop (l*s)).take ((hh-l)*s);rw[cb,a4,cc,be (by rw[Nat.sub_mul];omega)] at this;exact this
 ·rename_i o n es c hk
  cases mx with
  | some _=>cases h1
  | none=>
   simp only at h1;obtain⟨⟨e,s⟩,hq,h1⟩:=ul h1;obtain⟨hu,hs⟩:=gj hq;simp only at hu hs;rw[hu];obtain⟨⟨l,hh,m⟩,hb,h1⟩:=ul h1;obtain⟨hse,h1⟩:=bY h1;cases h1;simp only at hse;subst hse;rw[VS] at hv;subst hv;simp only;rw[hs,m8,hb,m8];simp only;rw[aa,ar]
   cases lo with
   | none=>
    have hl0:l=0:=by
     unfold cK at hb;simp only at hb;obtain⟨q,hq,hb⟩:=ul hb;simp only[rc,m9] at hb;exact hb.1.symm
    subst hl0;exact⟨_,rfl,by rw[VS,bv]⟩
   | some _=>exact⟨_,rfl,by rw[VS,ba]⟩
 ·rename_i o off n es c hk
  cases mx with
  | some _=>cases h1
  | none=>
   simp only at h1;obtain⟨⟨e,s⟩,hq,h1⟩:=ul h1;obtain⟨hu,hs⟩:=gj hq;simp only at hu hs;rw[hu];obtain⟨⟨l,hh,m⟩,hb,h1⟩:=ul h1;obtain⟨hse,h1⟩:=bY h1;cases h1;simp only at hse;subst hse;rw[VS] at hv;subst hv;simp only;rw[hs,m8,hb,m8];simp only;rw[aa,ar];exact⟨_,rfl,by rw[VS]⟩
 ·rename_i hk;obtain⟨⟨e,s⟩,hq,h1⟩:=ul h1;obtain⟨hu,hs⟩:=gj hq;simp only at hu hs;rw[hu];obtain⟨⟨l,hh,m⟩,hb,rfl⟩:=au h1;rw[VS] at hv;subst hv;simp only;rw[hs,m8,hb,m8];exact⟨_,rfl,by rw[VS]⟩
 ·rename_i e0 hk;obtain⟨⟨e,s⟩,hq,h1⟩:=ul h1;obtain⟨hu,hs⟩:=gj hq;simp only at hu hs;rw[hu];obtain⟨⟨l,hh,m⟩,hb,h1⟩:=ul h1;obtain⟨⟨hl0,hh0,hm0,hse⟩,h5⟩:=bY h1;clear h1;cases h5;simp only at hse;subst hl0;subst hh0;subst hm0;subst hse;rw[VS] at hv;obtain⟨o,e',rfl,hoe⟩:=hv;simp only;rw[hs,m8,hb,m8];simp only
  cases o with
  | none=>exact⟨_,rfl,by rw[VS];exact⟨none,0,rfl,λh=>un rfl h⟩⟩
  | some q=>
   obtain⟨id,off⟩:=q;rw[hoe gt];simp only;rw[aa,ar];exact⟨_,rfl,by rw[VS];exact⟨_,_,rfl,λ_=>rfl⟩⟩
 ·cases h1
end
section
variable {θ θ':Nat->Loc} {ρ ρ0:jX} {P:Program}
def JD{h0:En}{h:H}{S:List SO}(hR:RS θ ρ0 ρ h0 h S){v:SV}{x:AV}(hv:VS θ ρ v x){e:List AV×List SV}(he:Ay S v=some e):
 (x=.map none/\e=([],[]))\/∃id l c,x=.map (some id)/\h.mapOf id=some (l,c)/\l.map (·.1)=e.1/\cY θ ρ e.2 (l.map (·.2.1)):=by
 unfold Ay at he;split at he
 ·rename_i o;rw[VS] at hv;subst hv;split at he
  ·rename_i ks vs b hS;cases he;obtain⟨_,l,c,q1,⟨q2,_⟩,q3⟩:=hR.obj o _ hS g9;exact .inr ⟨_,l,c,rfl,by unfold H.mapOf;rw[q1],q2,q3⟩
  ·cases he
 ·cases he;rw[VS,GS] at hv;obtain⟨id,l,c,rfl,h2,h3,h4⟩:=hv;exact .inr ⟨id,l,c,rfl,by unfold H.mapOf;rw[(hR.row id _ h2).2.1],h3.1,h4.vs⟩
 ·cases he;rw[VS] at hv;subst hv;exact .inl ⟨rfl,rfl⟩
 ·cases he
def HW{h0:En}{h:H}{S:List SO}(hR:RS θ ρ0 ρ h0 h S){t:TypeId}{v k w:SV}{x y:AV}{ok:Bool}(hv:VS θ ρ v x)(hk:VS θ ρ k y)(hl:jd P S t v k ok=some w):∃z,rh P h t x y ok=some z/\VS θ ρ w z:=by
 unfold jd at hl;obtain⟨⟨kt,et⟩,hm,hl⟩:=ul hl;obtain⟨ka,hka,hl⟩:=ul hl;have:=jD hk hka;subst this;obtain⟨hkey,hl⟩:=aG hl;obtain⟨⟨ks,vs⟩,hent,hl⟩:=ul hl;obtain⟨r,hf,hl⟩:=ul hl;obtain⟨⟨u,b⟩,hu,rfl⟩:=au hl;unfold rh;rw[hm,m8];simp only;rw[hkey,ar]
 have fin:∀z:AV,VS θ ρ u z->VS θ ρ (cond ok (.cm [u,.a (.bool b)]) u) (cond ok (.cm [z,.bool b]) z):=by
  intro z hz;cases ok
  ·exact hz
  ·rw[ar,ar,VS];refine⟨_,rfl,?_⟩;rw[aK];refine⟨z,_,rfl,hz,?_⟩;rw[aK];exact⟨_,[],rfl,by rw[VS],by rw[bf]⟩
 rcases JD hR hv hent with⟨rfl,he⟩ | ⟨id,l,c,rfl,h1,h2,h3⟩
 ·cases he;simp only[ti,rc] at hf;subst hf;obtain⟨z,hz,hu⟩:=au hu;cases hu;simp only[m8,gN,hz,m7];exact⟨_,rfl,fin _ (zy z)⟩
 ·simp only at h2 h3 hf;simp only[h1,m7,m8];rw[tj,h2,hf,m8]
  cases r with
  | none=>
   obtain⟨z,hz,hu⟩:=au hu;cases hu;simp only[hz,m7];exact⟨_,rfl,fin _ (zy z)⟩
  | some i=>
   obtain⟨e,he,hu⟩:=au hu;cases hu;obtain⟨z,hz,kz⟩:=h3.get he;rw[a6] at hz;obtain⟨e3,he3,rfl⟩:=au hz;simp only[he3,m7];exact⟨_,rfl,fin _ kz⟩
def rk{α:Type}(g:AV×AV×Nat->α)(x:AV×AV×Nat):∀(l:List (AV×AV×Nat)) (i:Nat),(setAt x l i).map g=(l.map g).set i (g x)
 | [],i=>by cases i<;>rfl
 | e::l,0=>rfl
 | e::l,i+1=>by
  rw[setAt,am,am,List.set_cons_succ,rk g x l i]
def nK.snoc{l:List (AV×AV×Nat)}{c:Nat}(h:nK l c)(k v:AV):nK (l++[(k,v,c)]) (c+1):=by
 refine⟨?_,λe he=>?_⟩
 ·rw[bk,List.nodup_append];refine⟨h.1,by simp,?_⟩;intro a ha b hb;obtain⟨e,he,rfl⟩:=mem_map.1 ha;simp only[am,bo,List.mem_singleton] at hb;subst hb;exact Nat.ne_of_lt (h.2 e he)
 ·rcases List.mem_append.1 he with he | he
  ·exact Nat.lt_succ_of_lt (h.2 e he)
  ·rw[t6 he];exact bt _
def nK.Qf{l l':List (AV×AV×Nat)}{c:Nat}(h:nK l c)(hb:l'.map (·.2.2)=l.map (·.2.2)):nK l' c:=by
 refine⟨by rw[hb];exact h.1,λe he=>?_⟩;have:e.2.2∈l'.map (·.2.2):=List.mem_map_of_mem he;rw[hb] at this;obtain⟨e',he',q⟩:=mem_map.1 this;rw[<-q];exact h.2 e' he'
def yP{h0:En}{h:H}{S S':List SO}(hR:RS θ ρ0 ρ h0 h S){t:TypeId}{v k w:SV}{x y z:AV}(hv:VS θ ρ v x)(hk:VS θ ρ k y)(hw:VS θ ρ w z)(hl:iq P S t v k w=some S'):∃h',ko P h t x y z=some h'/\RS θ ρ0 ρ h0 h' S':=by
 unfold iq at hl;obtain⟨⟨kt,et⟩,hm,hl⟩:=ul hl;obtain⟨ka,hka,hl⟩:=ul hl;have:=jD hk hka;subst this;obtain⟨hkey,hl⟩:=aG hl;unfold ko;rw[hm,m8];simp only;rw[hkey,ar]
 cases v with
 | map o=>
  rw[VS] at hv;subst hv;simp only at hl ⊢;split at hl
  ·rename_i ks vs b hS;obtain⟨_,l,c,q1,⟨q2,qb,qp⟩,q3⟩:=hR.obj o _ hS g9
   have hmo:h.mapOf (θ o).id=some (l,c):=by unfold H.mapOf;rw[q1]
   obtain⟨r,hf,hl⟩:=ul hl;rw[hmo,m8];simp only;rw[tj,q2,hf,m8]
   cases r with
   | none=>
    simp only at hl ⊢;cases hl;refine⟨_,rfl,hR.R8 hS ?_ ?_⟩
    ·refine⟨by rw[bk,q2];rfl,qb.snoc _ _,λp hp=>?_⟩;obtain⟨p0,hp0,rfl⟩:=au hp;obtain⟨e1,e2⟩:=qp p0 hp0;exact⟨by rw[bk,e1,e2];rfl,by rw[e2]⟩
    ·rw[bk];refine q3.app ?_;rw[am,bo,aK];exact⟨_,[],rfl,hw,by rw[bf]⟩
   | some i=>
    simp only at hl ⊢;obtain⟨k0,hk0,hl⟩:=ul hl;obtain⟨hst,hl⟩:=aG hl;cases hl;rw[<-q2,a6] at hk0;obtain⟨e3,he3,rfl⟩:=au hk0;rw[he3,m8,hst,ar];refine⟨_,rfl,hR.R8 hS ?_ ?_⟩
    ·have hb:(setAt (y,z,e3.2.2) l i).map (·.2.2)=l.map (·.2.2):=by
      rw[rk];apply List.ext_getElem?;intro j;rw[List.getElem?_set];split
      ·rename_i e;subst e;split
       ·rw[a6,he3];rfl
       ·rename_i hl;rw[a0] at hl;rw[a7 (by rw[a0];omega)]
      ·rfl
     exact⟨by rw[rk,q2],qb.Qf hb,λp hp=>by rw[hb];exact qp p hp⟩
    ·rw[rk];exact q3.set i hw
  ·cases hl
 | _=>simp at hl
def cY.erase:∀{ds:List SV} {aS:List AV} (i:Nat),cY θ ρ ds aS->cY θ ρ (ds.eraseIdx i) (aS.eraseIdx i)
 | [],aS,i,h=>by rw[bf] at h;subst h;rw[cv,cv,bf]
 | d::ds,aS,i,h=>by
  rw[aK] at h;obtain⟨a,r,rfl,h1,h2⟩:=h
  cases i with
  | zero=>exact h2
  | succ i=>rw[a5,a5,aK];exact⟨a,_,rfl,h1,cY.erase i h2⟩
def eZ{α β:Type}(g:α->β):∀(l:List α) (i:Nat),(l.eraseIdx i).map g=(l.map g).eraseIdx i
 | [],i=>by simp
 | a::l,0=>rfl
 | a::l,i+1=>by rw[a5,am,am,a5,eZ g l i]
def PG{h0:En}{h:H}{S S':List SO}(hR:RS θ ρ0 ρ h0 h S){t:TypeId}{v k:SV}{x y:AV}(hv:VS θ ρ v x)(hk:VS θ ρ k y)(hl:KZ P S t v k=some S'):∃h',sT P h t x y=some (.cm [],h')/\RS θ ρ0 ρ h0 h' S':=by
 unfold KZ at hl;obtain⟨⟨kt,et⟩,hm,hl⟩:=ul hl;obtain⟨ka,hka,hl⟩:=ul hl;have:=jD hk hka;subst this;obtain⟨hkey,hl⟩:=aG hl;unfold sT;rw[hm,m8];simp only;rw[hkey,ar]
 cases v with
 | map o=>
  rw[VS] at hv;subst hv;simp only at hl ⊢;split at hl
  ·rename_i ks vs b hS;obtain⟨_,l,c,q1,⟨q2,qb,qp⟩,q3⟩:=hR.obj o _ hS g9
   have hmo:h.mapOf (θ o).id=some (l,c):=by unfold H.mapOf;rw[q1]
   obtain⟨r,hf,rfl⟩:=au hl;rw[hmo,m8];simp only;rw[tj,q2,hf,m7]
   cases r with
   | none=>exact⟨_,rfl,hR⟩
   | some i=>
    refine⟨_,rfl,hR.R8 hS ?_ ?_⟩
    ·refine⟨by rw[eZ,q2],⟨by rw[eZ];exact qb.1.sublist (List.eraseIdx_sublist _ _),λe he=>qb.2 e (List.mem_of_mem_eraseIdx he)⟩,λp hp=>?_⟩;obtain⟨p0,hp0,rfl⟩:=au hp;obtain⟨e1,e2⟩:=qp p0 hp0;exact⟨by rw[eZ,e1],e2⟩
    ·rw[eZ];exact q3.erase i
  ·cases hl
 | _=>simp at hl
def P2{h0:En}{h:H}{S:List SO}(hR:RS θ ρ0 ρ h0 h S){t:TypeId}{v:SV}{x:AV}{n:Nat}(hv:VS θ ρ v x)(hl:yI P S t v=some n):Fs P h t x=some (.int .i64 (n:Int)):=by
 unfold yI at hl;unfold Fs;split at hl
 ·rename_i s hk;rw[yH hk];rw[VS] at hv;subst hv;cases hl;rfl
 ·rename_i n' _ cs hk;obtain⟨e,hu⟩:=pz hk;rw[hu];rw[VS,GS] at hv;cases hl
  rcases hv with⟨rfl,_,o,e',c,rfl,_,_⟩ | ⟨id,off,cap,row,rfl,_⟩<;>rfl
 ·rename_i o n' _ c hk;obtain⟨e,hu⟩:=pz hk;rw[hu];rw[VS] at hv;subst hv;cases hl;rfl
 ·rename_i n' _ c hk;obtain⟨e,hu⟩:=pz hk;rw[hu];rw[VS] at hv;subst hv;cases hl;rfl
 ·rename_i hk;obtain⟨kt,et,hu⟩:=NG hk;rw[hu];obtain⟨e,he,rfl⟩:=au hl
  rcases JD hR hv he with⟨rfl,rfl⟩ | ⟨id,l,c,rfl,h1,h2,h3⟩
  ·rfl
  ·simp only[h1,m7,<-h2,a0];rfl
 ·rename_i o off n' _ c hk;obtain⟨e,hu⟩:=pz hk;rw[hu];rw[VS] at hv;subst hv;cases hl;rfl
 ·rename_i e hk;obtain⟨e,hu⟩:=pz hk;rw[hu];rw[VS] at hv;obtain⟨o,e',rfl,_⟩:=hv;cases hl;rfl
 ·cases hl
def Gb{h0:En}{h:H}{S:List SO}(hR:RS θ ρ0 ρ h0 h S){s m:Nat}{v:SV}{x:AV}{new:List SV}(hv:VS θ ρ v x)(hl:tR S s v=some (m,new)):
 ∃o es c xs,x=.slice o m es c/\(beq es s||beq m 0)=true/\cx h o m s=some xs/\cY θ ρ new xs:=by
 unfold tR at hl;split at hl
 ·rename_i n e cs;obtain⟨hb,hl⟩:=bY hl;cases hl;subst hb;rw[VS,GS] at hv
  rcases hv with⟨rfl,rfl,o,e',c,rfl,_,_⟩ | ⟨id,off,cap,row,rfl,h2,h3,h4⟩
  ·refine⟨o,e',c,[],rfl,by simp,?_,by rw[bf]⟩;unfold cx
   cases o with
   | none=>rfl
   | some q=>rfl
  ·refine⟨_,e,cap,(row.drop off).take (m*e),rfl,by rw[aa,co],?_,h4.vs⟩;unfold cx;simp only;cases hm:beq m 0
   ·rw[az,me,Ga hR h2];simp only[m8,lj];rw[eY h3,ar]
   ·have:=cP hm;subst this;rw[ar,bv,bh]
 ·rename_i o n e c;split at hl
  ·rename_i cs hS;obtain⟨⟨hes,hle⟩,hl⟩:=bY hl;cases hl;subst hes;rw[VS] at hv;subst hv;obtain⟨_,aS,q1,q2,_⟩:=hR.obj o _ hS g9;refine⟨_,e,c,aS.take (m*e),rfl,by rw[aa,co],?_,q2.take _⟩;unfold cx;simp only;cases hm:beq m 0
   ·rw[az,me];unfold rI;rw[q1];simp only[m8,lj];show lj aS 0 (m*e)=_;unfold lj;rw[eY (show 0+m*e<=aS.length by rw[q2.length];omega),ar,bJ]
   ·have:=cP hm;subst this;rw[ar,bv,bh]
  ·cases hl
 ·cases hl;rw[VS] at hv;subst hv;exact⟨none,0,some 0,[],rfl,by simp,rfl,by rw[bf]⟩
 ·rename_i o off n e c;split at hl
  ·rename_i cs hS;obtain⟨⟨hes,hle⟩,hl⟩:=bY hl;cases hl;subst hes;rw[VS] at hv;subst hv;obtain⟨_,aS,q1,q2,_⟩:=hR.obj o _ hS g9;refine⟨_,e,c,(aS.drop off).take (m*e),rfl,by rw[aa,co],?_,(q2.drop off).take _⟩;unfold cx;simp only;cases hm:beq m 0
   ·rw[az,me];unfold rI;rw[q1];simp only[m8,lj];show lj aS off (m*e)=_;unfold lj;rw[eY (show off+m*e<=aS.length by rw[q2.length];omega),ar]
   ·have:=cP hm;subst this;rw[ar,bv,bh]
  ·cases hl
 ·cases hl;rw[VS] at hv;obtain⟨o,e',rfl,_⟩:=hv;refine⟨o,e',some 0,[],rfl,by simp,?_,by rw[bf]⟩;unfold cx
  cases o with
  | none=>rfl
  | some q=>rfl
 ·cases hl
def FI{a b:Nat}(h:a≠b):beq a b=false:=by
 cases hb:beq a b
 ·rfl
 ·exact un (cP hb) h
def H6{h0:En}{h:H}{S:List SO}(hR:RS θ ρ0 ρ h0 h S){xt e:TypeId}{s m:Nat}{z:AV}{w:SV}{y:AV}{new:List SV}(hz:de P e=some z)(hzl:z.cells.length=s)(hw:VS θ ρ w y)(hl:xr P S xt s z w=some (m,new)):
 ∃xs,mc P h e s xt y=some (m,xs)/\cY θ ρ new xs:=by
 unfold xr at hl;unfold mc;split at hl
 ·rename_i hk;obtain⟨e',hux⟩:=pz hk;obtain⟨o,es,c,xs,rfl,k1,k2,k3⟩:=Gb hR hw hl;rw[hux];simp only;rw[k1,ar,k2];exact⟨xs,rfl,k3⟩
 ·obtain⟨hi,hl⟩:=aG hl;obtain⟨n,hn,hl⟩:=ul hl;obtain⟨hb,hl⟩:=bY hl;cases hl;unfold isInt at hi;split at hi
  ·rename_i kk hu;rw[hu];simp only;rw[C3 hw hn,m8,hz,m8,eY hb,hzl,aa,ad,ar];exact⟨_,rfl,cY.a _⟩
  ·cases hi
 ·cases hl
def Ho{h0:En}{h:H}{S S':List SO}(hR:RS θ ρ0 ρ h0 h S){st xt:TypeId}{v w r:SV}{x y:AV}{kill:Option Nat}(hv:VS θ ρ v x)(hw:VS θ ρ w y)(hl:w6 P S st xt v w=some (r,S',kill)):
 ∃z h' θ',sK P h st xt x y=some (z,h')/\RS θ' ρ0 ρ h0 h' S'/\VS θ' ρ r z/\∀v x,VS θ ρ v x->VS θ' ρ (jH kill v) x:=by
 unfold w6 at hl;have hl2:=ul hl;clear hl;obtain⟨⟨e,s⟩,hel,hl⟩:=hl2;obtain⟨hu,hs⟩:=gj hel;simp only at hu hs hl;obtain⟨i,hi,rfl⟩:=au hs;have hl2:=ul hl;clear hl;obtain⟨z,hz,hl⟩:=hl2;have hl2:=bY hl;clear hl;obtain⟨⟨b1,b2,b3⟩,hl⟩:=hl2;have hl2:=ul hl;clear hl;obtain⟨⟨m,new⟩,hrow,hl⟩:=hl2;unfold pa at b3;rw[hi] at b3;simp only at b3 hl;have b2':=FI b2;obtain⟨xs,happ,k3⟩:=H6 hR hz b1 hw hrow;unfold sK;rw[hu];by_cases hm:m=0
 ·rw[ut hm] at hl
  have hmb:beq m 0=true:=by rw[hm];rfl
  unfold MA at hl;split at hl
  ·cases hl;have hv':=hv;rw[VS] at hv;subst hv;simp only[hi,hz,m8,b1,b2',b3,aa,eY (show 0<=1000000 by omega),aR,ad,ar,happ,hmb];exact⟨_,_,θ,rfl,hR,hv',λv x h=>h⟩
  ·obtain⟨hn,hl⟩:=bY hl;cases hl;have hv':=hv;rw[VS] at hv;subst hv;simp only[hi,hz,m8,b1,b2',b3,aa,eY hn,aR,ad,ar,happ,hmb];exact⟨_,_,θ,rfl,hR,hv',λv x h=>h⟩
  ·cases hl;have hv':=hv;rw[VS] at hv;obtain⟨o',e',rfl,_⟩:=hv;simp only[hi,hz,m8,b1,b2',b3,aa,eY (show 0<=1000000 by omega),aR,ad,ar,happ,hmb];exact⟨_,_,θ,rfl,hR,hv',λv x h=>h⟩
  ·cases hl
 ·rw[v6 hm] at hl;have hmb:=FI hm;have hl2:=bY hl;clear hl;obtain⟨⟨b4,b5⟩,hl⟩:=hl2;have hone:=ma k3 b5;unfold KF at hl;split at hl
  ·rw[VS] at hv;subst hv;cases hl;obtain⟨n1,n2⟩:=hR.new (so:=.cells new) (ob:=.cells xs h.next) (.inl ⟨new,xs,rfl,rfl,k3⟩);simp only[hi,hz,m8,b1,b2',b3,aa,eY (show 0<=1000000 by omega),aR,ad,ar,happ,hmb,az,eY b4,H.mI];refine⟨_,_,_,rfl,n1,?_,n2⟩;rw[VS,cy]
  ·rename_i o' n es';rw[VS] at hv;subst hv;split at hl
   ·rename_i cs hS;obtain⟨⟨c1,c2,c3⟩,hl2⟩:=bY hl;cases hl2;subst c1;obtain⟨_,aS,q1,q2,q3⟩:=hR.obj o' _ hS g9;obtain⟨f1,f2,f3⟩:=hR.fork hS k3 q1 c3
    have hle:ble (n*i.size) aS.length=true:=by rw[q2.length];exact eY c3
    simp only[hi,hz,m8,b1,b2',b3,eY c2,aR,ad,ar,happ,hmb,az,eY b4,aa,q1,hle,hone,ba];refine⟨_,_,_,rfl,f2,?_,f3⟩;rw[VS,cy,f1]
   ·cases hl
  ·rename_i e';obtain⟨c1,hl2⟩:=bY hl;cases hl2;rw[VS] at hv;obtain⟨o',e'',rfl,ho'⟩:=hv;obtain⟨n1,n2⟩:=hR.new (so:=.cells new) (ob:=.cells xs h.next) (.inl ⟨new,xs,rfl,rfl,k3⟩)
   cases o' with
   | none=>
    simp only[hi,hz,m8,b1,b2',b3,aa,eY (show 0<=1000000 by omega),aR,ad,ar,happ,hmb,az,eY b4,H.mI];refine⟨_,_,_,rfl,n1,?_,n2⟩;rw[VS,cy]
   | some q=>
    have:=ho' gt;subst this;subst c1;obtain⟨id,off⟩:=q
    have hnl:ble (0+m) 0=false:=by
     cases hb:ble (0+m) 0
     ·rfl
     ·have:=mt hb;omega
    have hsc:cx h (some (id,off)) 0 i.size=some []:=rfl;simp only[hi,hz,m8,b1,b2',b3,aa,eY (show 0<=1000000 by omega),aR,ad,ar,happ,hmb,az,eY b4,H.mI,hnl,hsc,m7,dc];refine⟨_,_,_,rfl,n1,?_,n2⟩;rw[VS,cy,ba]
  ·rename_i o' n es' c';rw[VS] at hv;subst hv;split at hl
   ·rename_i cs hS;obtain⟨⟨c1,c2,c3,c4⟩,hl2⟩:=bY hl;cases hl2;subst c1;obtain⟨_,aS,q1,q2,q3⟩:=hR.obj o' _ hS g9;obtain⟨n1,n2⟩:=hR.new (so:=.cells (cs.take (n*i.size)++new)) (ob:=.cells (aS.take (n*i.size)++xs) h.next) (.inl ⟨_,_,rfl,rfl,(q2.take _).app k3⟩)
    have hnl:ble (n+m) c'=false:=by
     cases hb:ble (n+m) c'
     ·rfl
     ·have:=mt hb;omega
    have hsc:cx h (some ((θ o').id,0)) n i.size=some (aS.take (n*i.size)):=by
     unfold cx;simp only;cases hm:beq n 0
     ·rw[az,me];unfold rI;rw[q1];simp only[m8];show lj aS 0 (n*i.size)=_;unfold lj;rw[eY (show 0+n*i.size<=aS.length by rw[q2.length];omega),ar,bJ]
     ·have:=cP hm;subst this;rw[ar,bv,bh]
    simp only[hi,hz,m8,b1,b2',b3,eY c2,aR,ad,ar,happ,hmb,az,eY b4,aa,hnl,hsc,m7,H.mI];refine⟨_,_,_,rfl,n1,?_,n2⟩;rw[VS,cy]
   ·cases hl
  ·cases hl
def Pv{x:SV}{a:AV}{c:Nat}(hv:VS θ ρ x a)(hc:Ht x=some c):∃o n e,a=.slice o n e (some c):=by
 unfold Ht at hc;split at hc
 ·cases hc;rw[VS] at hv;exact⟨_,_,_,hv⟩
 ·cases hc;rw[VS] at hv;exact⟨_,_,_,hv⟩
 ·cases hc;rw[VS] at hv;exact⟨_,_,_,hv⟩
 ·cases hc;rw[VS] at hv;obtain⟨o,e',rfl,_⟩:=hv;exact⟨_,_,_,rfl⟩
 ·cases hc
def MG{x:SV}{a:AV}{o off n e:Nat}(hv:VS θ ρ x a)(hc:SJ x=some (o,off,n,e)):∃c,a=.slice (some ((θ o).id,off)) n e c:=by
 unfold SJ at hc;split at hc
 ·cases hc;rw[VS] at hv;exact⟨_,hv⟩
 ·cases hc;rw[VS] at hv;exact⟨_,hv⟩
 ·cases hc
def M5{h0:En}{h:H}{S S':List SO}(hR:RS θ ρ0 ρ h0 h S){t:TypeId}{v w r:SV}{x y:AV}{kill:Option Nat}(hv:VS θ ρ v x)(hw:VS θ ρ w y)(hl:JB P S t v w=some (r,S',kill)):
 ∃z h' θ',EI P h t x y=some (z,h')/\RS θ' ρ0 ρ h0 h' S'/\VS θ' ρ r z/\∀v x,VS θ ρ v x->VS θ' ρ (jH kill v) x:=by
 unfold JB at hl;obtain⟨⟨e,s⟩,hel,hl⟩:=ul hl;obtain⟨hu,hs⟩:=gj hel;obtain⟨⟨o,off,dl,des⟩,hat,hl⟩:=ul hl;obtain⟨⟨m,new⟩,hrow,hl⟩:=ul hl;obtain⟨cap,rfl⟩:=MG hv hat;obtain⟨o',es,c,xs,rfl,k1,k2,k3⟩:=Gb hR hw hrow;simp only at hl hu hs hrow k2;unfold EI;rw[hu];simp only;rw[hs,m8];unfold M4 at hl;by_cases hn:Nat.min m dl=0
 ·rw[ut hn] at hl;cases hl;rw[hn];exact⟨_,_,θ,rfl,hR,by rw[VS],λv x h=>h⟩
 ·rw[v6 hn] at hl;split at hl
  ·rename_i cs hS;obtain⟨⟨c1,c2,c3,c4⟩,hl2⟩:=bY hl;cases hl2;subst c1;have hm:m≠0:=λe=>hn (by rw[e];exact Nat.zero_min _)
   have hes:es=des:=by
    rw[FI hm,d0] at k1;exact cP k1
   subst hes;have hmn:Nat.min m dl<=m:=Nat.min_le_left _ _;generalize Nat.min m dl=n at *
   obtain⟨id,off',row,rfl,hch⟩:∃id off' row,o'=some (id,off')/\rI h.aU id=some row/\off'+m*es<=row.length/\xs=(row.drop off').take (m*es):=by
    unfold cx at k2
    cases o' with
    | none=>simp[FI hm] at k2
    | some q=>
     obtain⟨id,off'⟩:=q;simp only[FI hm,az,me] at k2;obtain⟨row,hr,k2⟩:=ul k2;unfold lj at k2;obtain⟨hb,k2⟩:=aG k2;exact⟨id,off',row,rfl,hr,mt hb,by cases k2;rfl⟩
   have hle:n*es<=m*es:=a8 _ hmn
   have hsc:cx h (some (id,off')) n es=some (xs.take (n*es)):=by
    unfold cx;simp only[FI hn,az,me,hch.1,m8];unfold lj;rw[eY (show off'+n*es<=row.length by omega),ar,hch.2.2,cc,be hle]
   have hl1:(new.take (n*es)).length=n*es:=by rw[ch,be c3]
   obtain⟨h',e1,e2,e3⟩:=hR.store (off:=off) hS (k3.take (n*es)) (ma (k3.take _) c4) (by rw[hl1];exact c2);refine⟨_,h',_,?_,by rw[hl1] at e2;exact e2,by rw[VS],e3⟩;rw[FI hn,az,aa,ad,ar,hsc,m8];simp only[e1,m7];rfl
  ·cases hl
def KT{h0:En}{h:H}{S S':List SO}(hR:RS θ ρ0 ρ h0 h S){t:TypeId}{v r:SV}{x:AV}{kill:Option Nat}(hv:VS θ ρ v x)(hl:Cw P S t v=some (r,S',kill)):
 ∃z h' θ',xY P h t x=some (z,h')/\RS θ' ρ0 ρ h0 h' S'/\VS θ' ρ r z/\∀v x,VS θ ρ v x->VS θ' ρ (jH kill v) x:=by
 unfold Cw at hl;obtain⟨⟨e,s⟩,hel,hl⟩:=ul hl;obtain⟨hu,hs⟩:=gj hel;obtain⟨z,hz,hl⟩:=ul hl;obtain⟨⟨o,off,n,es⟩,hat,hl⟩:=ul hl;obtain⟨cap,rfl⟩:=MG hv hat;simp only at hl hu hs hz;unfold xY;rw[hu];simp only;rw[hs,m8,hz,m8];by_cases hn:n=0
 ·rw[ut hn] at hl;cases hl;subst hn;exact⟨_,_,θ,rfl,hR,by rw[VS];rfl,λv x h=>h⟩
 ·rw[v6 hn] at hl;split at hl
  ·rename_i cs hS;obtain⟨⟨c1,c2,c3,c4⟩,hl2⟩:=bY hl;cases hl2;subst c1
   have hl1:((rep z.cells n).map SV.a).length=n*es:=by
    rw[a0,fY,c2]
   obtain⟨h',e1,e2,e3⟩:=hR.store (off:=off) hS (cY.a (rep z.cells n)) c4 (by rw[hl1];exact c3);refine⟨_,h',_,?_,by rw[hl1] at e2;exact e2,by rw[VS],e3⟩;rw[FI hn,az,aa,c2,aa,ad,ar];simp only[e1,m7];rfl
  ·cases hl
def EC{h0:En}{h:H}{S S':List SO}(hR:RS θ ρ0 ρ h0 h S){b:Builtin}{ats:List TypeId}{vs:List SV}{xs:List AV}{r:SV}{kill:Option Nat}(hv:cY θ ρ vs xs)(hl:gJ P S b ats vs=some (r,S',kill)):
 ∃z h' θ',mz P h b ats xs=some (z,h')/\RS θ' ρ0 ρ h0 h' S'/\VS θ' ρ r z/\∀v x,VS θ ρ v x->VS θ' ρ (jH kill v) x:=by
 unfold gJ at hl;split at hl
 ·rename_i st xt l x y;rw[aK] at hv;obtain⟨a,r1,rfl,h1,hv⟩:=hv;rw[aK] at hv;obtain⟨a2,r2,rfl,h2,hv⟩:=hv;rw[bf] at hv;subst hv;have:=Ho hR h1 h2 hl;exact this
 ·rename_i t l x xs';rw[aK] at hv;obtain⟨a,r1,rfl,h1,hv⟩:=hv;obtain⟨n,hn,hl⟩:=au hl;cases hl;have:=P2 hR h1 hn;refine⟨.int .i64 (n:Int),h,θ,?_,hR,?_,λv x h=>h⟩
  ·show(Fs P h t a).map (λv=>(v,h))=_;rw[this];rfl
  ·rw[VS]
 ·rename_i x l;rw[aK] at hv;obtain⟨a,r1,rfl,h1,hv⟩:=hv;obtain⟨n,hn,hl⟩:=au hl;cases hl;obtain⟨z,hz,kz⟩:=C0 h1 hv hn;refine⟨z,h,θ,?_,hR,kz,λv x h=>h⟩;unfold mz;split<;>simp_all
 ·rename_i x l;rw[aK] at hv;obtain⟨a,r1,rfl,h1,hv⟩:=hv;obtain⟨n,hn,hl⟩:=au hl;cases hl;obtain⟨z,hz,kz⟩:=C0 h1 hv hn;refine⟨z,h,θ,?_,hR,kz,λv x h=>h⟩;unfold mz;split<;>simp_all
 ·rename_i t l x k l';rw[aK] at hv;obtain⟨a,r1,rfl,h1,hv⟩:=hv;rw[aK] at hv;obtain⟨a2,r2,rfl,h2,hv⟩:=hv;obtain⟨S2,hS2,hl⟩:=au hl;cases hl;obtain⟨h',e1,e2⟩:=PG hR h1 h2 hS2;exact⟨_,h',θ,e1,e2,by rw[VS];rfl,λv x h=>h⟩
 ·rename_i dt l x y;rw[aK] at hv;obtain⟨a,r1,rfl,h1,hv⟩:=hv;rw[aK] at hv;obtain⟨a2,r2,rfl,h2,hv⟩:=hv;rw[bf] at hv;subst hv;exact M5 hR h1 h2 hl
 ·rename_i t l x;rw[aK] at hv;obtain⟨a,r1,rfl,h1,hv⟩:=hv;rw[bf] at hv;subst hv;exact KT hR h1 hl
 ·rename_i t l x;rw[aK] at hv;obtain⟨a,r1,rfl,h1,hv⟩:=hv;rw[bf] at hv;subst hv;obtain⟨⟨e,s⟩,hel,hl⟩:=ul hl;obtain⟨hu,_⟩:=gj hel;obtain⟨c,hc,hl⟩:=au hl;cases hl;obtain⟨o,n,e',rfl⟩:=Pv h1 hc;refine⟨.int .i64 (c:Int),h,θ,?_,hR,by rw[VS],λv x h=>h⟩;show(match P.underlying t with | some (.slice _)=>some (AV.int .i64 (ofNat c),h) | _=>none)=_;rw[hu];rfl
 ·cases hl
def Oi{c a b:Option SV}{v:SV}(h:J8 c a b=some v):∃z x y,c=some (.a (.bool z))/\a=some x/\b=some y/\v=cond z x y:=by
 unfold J8 at h;split at h
 ·cases h;exact⟨_,_,_,rfl,rfl,rfl,rfl⟩
 ·cases h
def FR.ki{f:Fm}{af:Nat->AV}{n:Nat}{kill:Option Nat}{wv:Nat->AV}(hF:FR θ ρ (aP f) af n wv)(hk:∀v x,VS θ ρ v x->VS θ' ρ (jH kill v) x):FR θ' ρ (aP (Ev.ki f kill)) af n wv:=by
 refine⟨λi=>?_,hF.u⟩;have:=hk _ _ (hF.v i)
 cases kill with
 | none=>exact this
 | some o=>show VS θ' ρ (aP (eK o f) i) _;rw[ib];exact this
def FR.put{f:Fm}{af:Nat->AV}{n:Nat}{wv:Nat->AV}(hF:FR θ ρ (aP f) af n wv){d:Nat}{v:SV}{x:AV}(hd:d<n)(hv:VS θ ρ v x):FR θ ρ (aP ((d,v)::f)) (As af d x) n wv:=by
 refine⟨λi=>?_,hF.u⟩;show VS θ ρ (if d=i then v else aP f i) _;by_cases hdi:d=i
 ·subst hdi;rw[ut rfl,ut hd,uw];exact hv
 ·rw[v6 hdi,rC _ _ (λe=>hdi e.symm)];exact hF.v i
def FR.kill{f:Fm}{af:Nat->AV}{n:Nat}{kill:Option Nat}{wv:Nat->AV}(hF:FR θ ρ (aP f) af n wv)(hk:∀v x,VS θ ρ v x->VS θ' ρ (jH kill v) x){d:Nat}{v:SV}{x:AV}(hd:d<n)(hv:VS θ' ρ v x):FR θ' ρ (aP (sg f kill (some d) v)) (As af d x) n wv:=(hF.ki hk).put hd hv
def OI{h0:En}{h:H}{S S':List SO}(hR:RS θ ρ0 ρ h0 h S){f:Fm}{af:Nat->AV}{n:Nat}{wv:Nat->AV}(hF:FR θ ρ (aP f) af n wv){op:Op}{r:SV}{kill:Option Nat}(hop:dH P f S op=some (r,S',kill)):
 ∃rv h' θ',ep P (eh af n) h op=some [(rv,h')]/\RS θ' ρ0 ρ h0 h' S'/\VS θ' ρ r (TV rv)/\∀v x,VS θ ρ v x->VS θ' ρ (jH kill v) x:=by
 have pure:∀{w:SV} {y:AV},ep P (eh af n) h op=some [(some y,h)]->VS θ ρ w y->some (w,S,(none:Option Nat))=some (r,S',kill)->∃rv h' θ',ep P (eh af n) h op=some [(rv,h')]/\RS θ' ρ0 ρ h0 h' S'/\VS θ' ρ r (TV rv)/\∀v x,VS θ ρ v x->VS θ' ρ (jH kill v) x:=by
  intro w y h1 h2 h3;cases h3;exact⟨some y,h,θ,h1,hR,h2,λv x h=>h⟩
 have fresh:∀{so:SO} {ob:AO} {w:SV} {y:AV},ep P (eh af n) h op=some [(some y,{ h.lay h.next ob with next:=h.next+1 })]->((∃cs aS,so=.cells cs/\ob=.cells aS h.next/\cY θ ρ cs aS)\/(so=.map [] [] none/\ob=.map [] 0))->VS (gC θ S.length ⟨h.next,h.next,h.next,h.next⟩) ρ w y->some (w,fW S so,some S.length)=some (r,S',kill)->∃rv h' θ',ep P (eh af n) h op=some [(rv,h')]/\RS θ' ρ0 ρ h0 h' S'/\VS θ' ρ r (TV rv)/\∀v x,VS θ ρ v x->VS θ' ρ (jH kill v) x:=by
  intro so ob w y h1 h2 h3 h4;cases h4;obtain⟨k1,k2⟩:=hR.new h2;exact⟨some y,_,_,h1,k1,h3,k2⟩
 cases op with
 | move x=>
  obtain⟨v,hv,e⟩:=au hop;obtain⟨a,ha,ka⟩:=bL hF hv;exact pure (by rw[Qy,ha];rfl) ka (by rw[e])
 | assign x=>
  obtain⟨v,hv,e⟩:=au hop;obtain⟨a,ha,ka⟩:=bL hF hv;exact pure (by rw[Lx,ha];rfl) ka (by rw[e])
 | pick c a b=>
  obtain⟨v,hv,e⟩:=au hop;obtain⟨z,x,y,h1,h2,h3,rfl⟩:=Oi hv;obtain⟨c',g1,k1⟩:=bL hF h1;obtain⟨a',g2,k2⟩:=bL hF h2;obtain⟨b',g3,k3⟩:=bL hF h3;rw[VS] at k1;subst k1;exact pure (w:=cond z x y) (y:=cond z a' b') (by rw[Qz,g1,g2,g3];rfl) (by cases z;exact k3;exact k2) (by rw[e])
 | alloc e=>
  obtain⟨z,hz,he⟩:=au hop;exact fresh (w:=.ptr S.length 0) (so:=.cells (z.cells.map .a)) (ob:=.cells z.cells h.next) (by rw[N5,hz];rfl) (.inl ⟨_,_,rfl,rfl,cY.a _⟩) (by rw[VS,cy]) (by rw[he])
 | box e x=>
  obtain⟨v,hv,hop⟩:=ul hop;obtain⟨cs,hcs,he⟩:=au hop;obtain⟨a,ha,ka⟩:=bL hF hv;exact fresh (w:=.ptr S.length 0) (so:=.cells cs) (ob:=.cells a.cells h.next) (by rw[Sf,ha];rfl) (.inl ⟨_,_,rfl,rfl,uK ka hcs⟩) (by rw[VS,cy]) (by rw[he])
 | build tt ps=>
  obtain⟨l,hl,hop⟩:=ul hop;obtain⟨v,hv,he⟩:=au hop;obtain⟨aS,h1,k1⟩:=vr hF hl;obtain⟨a,ha,ka⟩:=KK k1 hv;exact pure (by rw[N7,h1,m8,ha];rfl) ka (by rw[he])
 | buildSlice tt m ps=>
  obtain⟨l,hl,hop⟩:=ul hop;obtain⟨q,hv,he⟩:=au hop;obtain⟨aS,h1,k1⟩:=vr hF hl;obtain⟨cs,ha,ka⟩:=xV k1 hv;exact fresh (w:=.buf S.length m q.1 (some m)) (so:=.cells q.2) (ob:=.cells cs h.next) (by rw[AL,h1,m8,ha];rfl) (.inl ⟨_,_,rfl,rfl,ka⟩) (by rw[VS,cy]) (by rw[he])
 | makeMap tt x=>
  cases x with
  | none=>
   have he:some ((SV.map S.length,fW S (.map [] [] none),some S.length):SV×List SO×Option Nat)=some (r,S',kill):=hop;exact fresh (w:=.map S.length) (so:=.map [] [] none) (ob:=.map [] 0) (by rw[Ib]) (.inr ⟨rfl,rfl⟩) (by rw[VS,cy]) he
  | some _=>simp[dH] at hop
 | makeSlice tt l c=>
  simp only[dH] at hop;split at hop
  ·rename_i la ca hl hc;obtain⟨q,hq,he⟩:=au hop;obtain⟨l',g1,k1⟩:=bL hF hl;obtain⟨c',g2,k2⟩:=bL hF hc;rw[VS] at k1 k2;subst k1;subst k2;refine fresh (w:=.buf S.length q.1 q.2.1 (some q.2.2.1)) (so:=.cells (q.2.2.2.map .a)) (ob:=.cells q.2.2.2 h.next) (y:=.slice (some (h.next,0)) q.1 q.2.1 (some q.2.2.1)) ?_ (.inl ⟨_,_,rfl,rfl,cY.a _⟩) (by rw[VS,cy]) (by rw[he]);simp only[ep,oV,g1,g2,m8,hq,m7]
  ·cases hop
 | load tt a=>
  obtain⟨a',ha,hop⟩:=ul hop;obtain⟨v,hv,he⟩:=au hop;obtain⟨x,g1,k1⟩:=bL hF ha;obtain⟨y,g2,k2⟩:=Ft hR k1 hv;exact pure (by rw[Qw,g1,g2];rfl) k2 (by rw[he])
 | store tt a x=>
  obtain⟨a',ha,hop⟩:=ul hop;obtain⟨x',hx,hop⟩:=ul hop;obtain⟨S2,hS,he⟩:=au hop;cases he;obtain⟨p,g1,k1⟩:=bL hF ha;obtain⟨y,g2,k2⟩:=bL hF hx;obtain⟨h',θ',e1,e2,e3⟩:=LP hR k1 k2 hS;exact⟨none,h',θ',by rw[Od,g1,g2,e1];rfl,e2,by rw[VS];rfl,e3⟩
 | nilCheck x=>
  obtain⟨a',ha,hop⟩:=ul hop;obtain⟨v,hv,he⟩:=au hop;obtain⟨p,g1,k1⟩:=bL hF ha;obtain⟨e1,rfl⟩:=P8 (P:=P) k1 hv;refine pure (y:=p) ?_ k1 (by rw[he]);simp only[ep,g1,m8,e1,m7]
 | binOp op t x y yt=>
  obtain⟨x',hx,hop⟩:=ul hop;obtain⟨y',hy,hop⟩:=ul hop;obtain⟨xa,hxa,hop⟩:=ul hop;obtain⟨ya,hya,hop⟩:=ul hop;obtain⟨v,hv,he⟩:=au hop;obtain⟨p,g1,k1⟩:=bL hF hx;obtain⟨q,g2,k2⟩:=bL hF hy;have e1:=jD k1 hxa;have e2:=jD k2 hya;subst e1;subst e2;exact pure (w:=.a v) (y:=v) (by rw[N6,g1,g2,m8,m8,hv];rfl) (by rw[VS]) (by rw[he])
 | unOp op t x=>
  obtain⟨x',hx,hop⟩:=ul hop;obtain⟨xa,hxa,hop⟩:=ul hop;obtain⟨v,hv,he⟩:=au hop;obtain⟨p,g1,k1⟩:=bL hF hx;have e1:=jD k1 hxa;subst e1;exact pure (w:=.a v) (y:=v) (by rw[Tg,g1,m8,hv];rfl) (by rw[VS]) (by rw[he])
 | convert s d x=>
  obtain⟨x',hx,hop⟩:=ul hop;obtain⟨xa,hxa,hop⟩:=ul hop;obtain⟨v,hv,he⟩:=au hop;obtain⟨p,g1,k1⟩:=bL hF hx;have e1:=jD k1 hxa;subst e1;exact pure (w:=.a v) (y:=v) (by rw[Qu,g1,m8,hv];rfl) (by rw[VS]) (by rw[he])
 | makeInterface t x=>
  simp only[dH] at hop;obtain⟨hi,hop⟩:=aG hop;obtain⟨v,hv,he⟩:=au hop;obtain⟨p,g1,k1⟩:=bL hF hv;refine pure (w:=.iface t v) (y:=.iface t p) ?_ (by rw[VS];exact⟨p,rfl,k1⟩) (by rw[he]);unfold JN at hi
  cases hu:P.underlying t with
  | none=>rw[hu] at hi;cases hi
  | some d=>
   rw[hu] at hi;rw[N9 hu (by cases d<;>first | rfl | cases hi),g1];rfl
 | makeFunc g first cap=>
  cases g with
  | func g=>
   obtain⟨a,ha,hop⟩:=ul hop;obtain⟨b,hb,he⟩:=au hop;obtain⟨p,g1,k1⟩:=l7 hF ha;obtain⟨q,g2,k2⟩:=l7 hF hb;exact pure (w:=.fn g a b) (y:=.fn (.func g) p q) (by rw[Qv,g1,g2];rfl) (by rw[VS];exact⟨p,q,rfl,k1,k2⟩) (by rw[he])
  | method nm=>
   obtain⟨a,ha,hop⟩:=ul hop;obtain⟨a2,ha2,hop⟩:=ul hop;obtain⟨b,hb,hop⟩:=ul hop;obtain⟨b2,hb2,he⟩:=au hop;obtain⟨p,g1,k1⟩:=l7 hF ha;obtain⟨q,g2,k2⟩:=l7 hF hb;have e1:=oi k1 ha2;have e2:=oi k2 hb2;subst e1;subst e2;exact pure (w:=.a (.fn (.method nm) p q)) (y:=.fn (.method nm) p q) (by rw[Qx,g1,g2];rfl) (by rw[VS]) (by rw[he])
  | _=>simp[dH] at hop
 | slice tt x lo hi mx=>
  obtain⟨x',hx,hop⟩:=ul hop;obtain⟨lo',hlo,hop⟩:=ul hop;obtain⟨hi',hhi,hop⟩:=ul hop;obtain⟨mx',hmx,hop⟩:=ul hop;obtain⟨v,hv,he⟩:=au hop;obtain⟨p,g1,k1⟩:=bL hF hx;obtain⟨y,g2,k2⟩:=LN (h:=h) k1 hv;refine pure (y:=y) ?_ k2 (by rw[he]);rw[Oc,g1,Di hF hlo,Di hF hhi,Di hF hmx];simp only[m8,g2,m7]
 | fieldAddr s x fl=>
  obtain⟨x',hx,hop⟩:=ul hop;obtain⟨v,hv,he⟩:=au hop;obtain⟨p,g1,k1⟩:=bL hF hx;obtain⟨y,g2,k2⟩:=AA k1 hv;exact pure (by rw[C8,g1,m8,g2];rfl) k2 (by rw[he])
 | field s x fl=>
  obtain⟨x',hx,hop⟩:=ul hop;obtain⟨v,hv,he⟩:=au hop;obtain⟨p,g1,k1⟩:=bL hF hx;obtain⟨y,g2,k2⟩:=K8 k1 hv;exact pure (by rw[N8,g1,m8,g2];rfl) k2 (by rw[he])
 | indexAddr t x i=>
  obtain⟨x',hx,hop⟩:=ul hop;obtain⟨i',hi,hop⟩:=ul hop;obtain⟨v,hv,he⟩:=au hop;obtain⟨p,g1,k1⟩:=bL hF hx;obtain⟨q,g3,k3⟩:=bL hF hi;obtain⟨y,g2,k2⟩:=AD k1 k3 hv;exact pure (by rw[C9,g1,g3,m8,m8,g2];rfl) k2 (by rw[he])
 | index t x i=>
  obtain⟨x',hx,hop⟩:=ul hop;obtain⟨i',hi,hop⟩:=ul hop;obtain⟨v,hv,he⟩:=au hop;obtain⟨p,g1,k1⟩:=bL hF hx;obtain⟨q,g3,k3⟩:=bL hF hi;obtain⟨y,g2,k2⟩:=Lc k1 k3 hv;exact pure (by rw[Ob,g1,g3,m8,m8,g2];rfl) k2 (by rw[he])
 | lookup t x k ok=>
  obtain⟨x',hx,hop⟩:=ul hop;obtain⟨i',hi,hop⟩:=ul hop;obtain⟨v,hv,he⟩:=au hop;obtain⟨p,g1,k1⟩:=bL hF hx;obtain⟨q,g3,k3⟩:=bL hF hi;obtain⟨y,g2,k2⟩:=HW hR k1 k3 hv;exact pure (by rw[Ly,g1,g3,m8,m8,g2];rfl) k2 (by rw[he])
 | mapUpdate t m k x=>
  obtain⟨m',hm,hop⟩:=ul hop;obtain⟨k',hk,hop⟩:=ul hop;obtain⟨x',hx,hop⟩:=ul hop;obtain⟨S2,hS,he⟩:=au hop;cases he;obtain⟨p,g1,k1⟩:=bL hF hm;obtain⟨q,g2,k2⟩:=bL hF hk;obtain⟨y,g3,k3⟩:=bL hF hx;obtain⟨h',e1,e2⟩:=yP hR k1 k2 k3 hS;refine⟨none,h',θ,?_,e2,by rw[VS];rfl,λv x h=>h⟩;rw[Da,g1,g2,g3];simp only[m8,e1,m7]
 | insert t m k x=>
  obtain⟨m',hm,hop⟩:=ul hop;obtain⟨k',hk,hop⟩:=ul hop;obtain⟨x',hx,hop⟩:=ul hop;obtain⟨S2,hS,he⟩:=au hop;cases he;obtain⟨p,g1,k1⟩:=bL hF hm;obtain⟨q,g2,k2⟩:=bL hF hk;obtain⟨y,g3,k3⟩:=bL hF hx;obtain⟨h',e1,e2⟩:=yP hR k1 k2 k3 hS;refine⟨none,h',θ,?_,e2,by rw[VS];rfl,λv x h=>h⟩;simp only[ep,g1,g2,g3,m8,e1,m7]
 | extract x i=>
  simp only[dH] at hop;split at hop
  ·rename_i vs hx;obtain⟨v,hv,he⟩:=au hop;obtain⟨p,g1,k1⟩:=bL hF hx;rw[VS] at k1;obtain⟨aS,rfl,k1⟩:=k1;obtain⟨y,g2,k2⟩:=k1.get hv;refine pure (y:=y) ?_ k2 (by rw[he]);rw[Ia,g1];simp only[Bn,g2,m7]
  ·cases hop
 | call c=>
  obtain⟨callee,args,ats⟩:=c
  cases callee with
  | builtin b=>
   obtain⟨xs,hxs,hop⟩:=ul hop;obtain⟨p,g1,k1⟩:=l7 hF hxs;obtain⟨z,h',θ',e1,e2,e3,e4⟩:=EC hR k1 hop;refine⟨some z,h',θ',?_,e2,e3,e4⟩;rw[H9,g1,m8,e1];rfl
  | _=>simp[dH] at hop
 | _=>simp[dH] at hop
end
structure eI where
 f:Fm
 n:Nat
 S:List SO
 ds:List jT
def SK(ds:List jT)(j:Nat):AV:=match ds.reverse[j]? with
 | some d=>match d.fn with
  | some f=>.fn f d.args d.cap
  | none=>lH
 | none=>lH
def Hb(w:Nat->AV):List jT->Nat->AV
 | [],i=>w i
 | d::ds,i=>if 7000000<=i then SK (d::ds) (i-7000000) else w i
def jz(ρ0:jX)(h0:En)(st:eI)(ast:gY):Prop:=ast.n=st.n/\ast.ds=st.ds/\∃θ ρ,RS θ ρ0 ρ h0 ast.h st.S/\FR θ ρ (aP st.f) ast.f st.n (Hb h0.w ast.ds)
def SZ(ρ0:jX)(h0:En)(N:Nat)(Q:Ex->eI->Prop):Ex->gY->Prop:=λex ast=>∃st,Q ex st/\st.n=N/\jz ρ0 h0 st ast
def aE(P:Program)(ro:Option Nat)(c:Code)(st:eI)(Q:Ex->eI->Prop):Prop:=∀ρ0 h0 ast,jz ρ0 h0 st ast->lI P ro c ast (SZ ρ0 h0 st.n Q)
def aT(P:Program)(ro:Option Nat)(all l:List Oper)(st:eI)(K:eI->Prop):Prop:=∀ρ0 h0 ast,jz ρ0 h0 st ast->jx P ro all l ast (λast'=>∃st',K st'/\st'.n=st.n/\jz ρ0 h0 st' ast')
section
variable {P:Program} {ro:Option Nat}
def aE.mono{c:Code}{st:eI}{Q Q':Ex->eI->Prop}(h:aE P ro c st Q)(hq:∀e x,Q e x->Q' e x):aE P ro c st Q':=
 λρ0 h0 ast hs=>(h ρ0 h0 ast hs).mono λ_ _ ⟨x,h1,h2⟩=>⟨x,hq _ _ h1,h2⟩
def aE.skip{st:eI}{Q:Ex->eI->Prop}(h:Q .normal st):aE P ro .skip st Q:=λ_ _ _ hs=>.skip ⟨st,h,rfl,hs⟩
def aE.exit{id:Nat}{st:eI}{Q:Ex->eI->Prop}(h:Q (.exit id) st):aE P ro (.exit id) st Q:=λ_ _ _ hs=>.exit ⟨st,h,rfl,hs⟩
def aE.ret{st:eI}{Q:Ex->eI->Prop}(h:Q .ret st):aE P ro .ret st Q:=λ_ _ _ hs=>.ret ⟨st,h,rfl,hs⟩
def cX(P:Program)(ro:Option Nat)(y:Code)(Q:Ex->eI->Prop):Ex->eI->Prop
 | .normal,st=>aE P ro y st Q
 | e,st=>Q e st
def aE.seq{x y:Code}{st:eI}{Q:Ex->eI->Prop}(h:aE P ro x st (cX P ro y Q)):aE P ro (.seq x y) st Q:=by
 intro ρ0 h0 ast hs;refine .seq ((h ρ0 h0 ast hs).mono ?_);rintro e a ⟨st',h1,h2,h3⟩
 cases e with
 | normal=>
  have:=h1 ρ0 h0 a h3;rw[h2] at this;exact this
 | _=>exact⟨st',h1,h2,h3⟩
def aE.cond{c:Operand}{x y:Code}{st:eI}{Q:Ex->eI->Prop}{b:Bool}(hc:fD st.f c=some (.a (.bool b)))(h1:b=true->aE P ro x st Q)(h2:b=false->aE P ro y st Q):aE P ro (.cond c x y) st Q:=by
 intro ρ0 h0 ast hs;obtain⟨a1,a2,θ,ρ,hR,hF⟩:=hs;rw[<-a1] at hF;obtain⟨a,ha,ka⟩:=bL hF hc;rw[VS] at ka;subst ka;refine .cond ha (λh=>h1 h ρ0 h0 ast ⟨a1,a2,θ,ρ,hR,by rw[<-a1];exact hF⟩) (λh=>h2 h ρ0 h0 ast ⟨a1,a2,θ,ρ,hR,by rw[<-a1];exact hF⟩)
def aE.yes{c:Operand}{x y:Code}{st:eI}{Q:Ex->eI->Prop}(hc:fD st.f c=some (.a (.bool true)))(h1:aE P ro x st Q):aE P ro (.cond c x y) st Q:=.cond hc (λ_=>h1) g9
def aE.no{c:Operand}{x y:Code}{st:eI}{Q:Ex->eI->Prop}(hc:fD st.f c=some (.a (.bool false)))(h1:aE P ro y st Q):aE P ro (.cond c x y) st Q:=.cond hc g9 (λ_=>h1)
def eQ(id:Nat)(Q:Ex->eI->Prop):Ex->eI->Prop
 | .exit i,st=>if i=id then Q .normal st else Q (.exit i) st
 | e,st=>Q e st
def aE.block{id:Nat}{x:Code}{st:eI}{Q:Ex->eI->Prop}(h:aE P ro x st (eQ id Q)):aE P ro (.block id x) st Q:=by
 intro ρ0 h0 ast hs;refine .block ((h ρ0 h0 ast hs).mono ?_);rintro e a ⟨st',h1,h2,h3⟩
 cases e with
 | exit i=>
  simp only[eQ] at h1;simp only[Mq];by_cases hi:i=id
  ·rw[ut hi] at h1 ⊢;exact⟨st',h1,h2,h3⟩
  ·rw[v6 hi] at h1 ⊢;exact⟨st',h1,h2,h3⟩
 | _=>exact⟨st',h1,h2,h3⟩
def Fg(st st':eI):Prop:=st'.n=st.n/\∀ρ0 h0 ast,jz ρ0 h0 st ast->jz ρ0 h0 st' ast
def Fg.trans{a b c:eI}(h1:Fg a b)(h2:Fg b c):Fg a c:=⟨h2.1.trans h1.1,λ_ _ _ h=>h2.2 _ _ _ (h1.2 _ _ _ h)⟩
def aE.fg{c:Code}{st st':eI}{Q:Ex->eI->Prop}(hf:Fg st st')(h:aE P ro c st' Q):aE P ro c st Q:=by
 intro ρ0 h0 ast hs;have:=h ρ0 h0 ast (hf.2 _ _ _ hs);rw[hf.1] at this;exact this
def bU(I:Nat->eI->Prop)(m:Nat)(Q:Ex->eI->Prop):Ex->eI->Prop
 | .normal,st=>∃k st',k<m/\Fg st st'/\I k st'
 | e,st=>Q e st
def aE.loop{x:Code}{st:eI}{Q:Ex->eI->Prop}(I:Nat->eI->Prop)(m:Nat){st0:eI}(hf:Fg st st0)(h0:I m st0)(hn:∀m st',I m st'->st'.n=st.n)(h:∀m st,I m st->aE P ro x st (bU I m Q)):aE P ro (.loop x) st Q:=by
 intro ρ0 hh ast hs;refine .loop (λm a=>∃st',I m st'/\jz ρ0 hh st' a) m ⟨st0,h0,hf.2 _ _ _ hs⟩ ?_;rintro k a ⟨st1,hI,hst⟩;refine(h k st1 hI ρ0 hh a hst).mono ?_;rintro e a' ⟨st',h1,h2,h3⟩;have hn1:=hn _ _ hI
 cases e with
 | normal=>
  obtain⟨k',st2,hk,hfg,hI2⟩:=h1;exact⟨k',hk,st2,hI2,hfg.2 _ _ _ h3⟩
 | _=>exact⟨st',h1,h2.trans hn1,h3⟩
def bK(Q:Ex->eI->Prop):Ex->eI->Prop
 | .goto _,_=>False
 | e,st=>Q e st
def aE.region{id:Nat}{ops:Array Oper}{st:eI}{Q:Ex->eI->Prop}(h:aT P ro ops.toList ops.toList st (Q .normal)):aE P ro (.region id ops false) st Q:=by
 intro ρ0 h0 ast hs;obtain⟨f,n,hh,ds⟩:=ast;refine .region ?_;have:=h ρ0 h0 _ hs;intro ops i h1 h2 F n σ a w Q' h3 h4 h5;exact this ops i h1 h2 F n σ a w Q' h3 h4 λst' a' w' σ' h6=>h5 st' a' w' σ' (by obtain⟨x,k1,k2,k3⟩:=h6;exact⟨x,k1,k2,k3⟩)
def uB(ops:List Oper)(f:Fm)(n:Nat)(o:Oper):Option Bool:=match o.guard with
 | none=>some true
 | some (j,want)=>match (ops[j]?).bind (·.dst) with
  | some d=>_root_.cond (blt d n) (match aP f d with
   | .a (.bool b)=>some (b==want)
   | .a (.cm [])=>some false
   | _=>none) none
  | none=>none
def di{θ:Nat->Loc}{ρ:jX}{ops:List Oper}{f:Fm}{af:Nat->AV}{n:Nat}{wv:Nat->AV}(hF:FR θ ρ (aP f) af n wv){o:Oper}{b:Bool}(h:uB ops f n o=some b):kH ops af n o=some b:=by
 unfold uB at h;unfold kH;split at h
 ·rename_i hg;rw[hg];exact h
 ·rename_i j want hg;rw[hg];simp only;split at h
  ·rename_i d hd;obtain⟨hlt,h2⟩:=aG h;have:=hF.v d;rw[ut (fO hlt)] at this;rw[hd];simp only;rw[hlt,ar];split at h2
   ·rename_i hx;rw[hx,VS] at this;rw[this];exact h2
   ·rename_i hx;rw[hx,VS] at this;rw[this];exact h2
   ·cases h2
  ·cases h
def eG(all:List Oper)(n:Nat)(l:List Oper):Bool:=l.all λo=>yc o.dst n&&(match o.guard with
 | none=>true
 | some (j,_)=>match (all[j]?).bind (·.dst) with
  | some d=>blt d n
  | none=>false)
def Ha(want:Bool):SV->Option Bool
 | .a (.bool b)=>some (_root_.cond want b (!b))
 | .a (.cm [])=>some false
 | _=>none
def cO(all:List Oper)(f:Fm)(g:Option (Nat×Bool)):Option Bool:=match g with
 | none=>some true
 | some (j,want)=>(all[j]?).bind λo=>o.dst.bind λd=>Ha want (aP f d)
def eX{all:List Oper}{f:Fm}{n:Nat}{o:Oper}{l:List Oper}{b:Bool}(hs:eG all n (o::l)=true)(h:cO all f o.guard=some b):uB all f n o=some b:=by
 unfold eG at hs;rw[ci,ac,ac] at hs;have hs2:=hs.1.2;unfold cO at h;unfold uB
 cases hg:o.guard with
 | none=>rw[hg] at h;exact h
 | some q=>
  obtain⟨j,want⟩:=q;rw[hg] at h hs2;simp only at h hs2 ⊢;obtain⟨oj,hj,h⟩:=ul h;obtain⟨d,hd,h⟩:=ul h;rw[hj,m8,hd] at hs2 ⊢;simp only at hs2 ⊢;rw[hs2,ar];unfold Ha at h;split at h
  ·rename_i b' hb;cases want<;>cases b'<;>exact h
  ·exact h
  ·cases h
def fz{all:List Oper}{n:Nat}{o:Oper}{l:List Oper}(hs:eG all n (o::l)=true):yc o.dst n=true/\eG all n l=true:=by
 unfold eG at hs ⊢;rw[ci,ac,ac] at hs;exact⟨hs.1.1,hs.2⟩
def oM(P:Program)(all:List Oper):List Oper->Fm->List SO->List Oper×Fm×List SO
 | [],f,S=>([],f,S)
 | o::l,f,S=>match cO all f o.guard with
  | some true=>match dH P f S o.op with
   | some q=>oM P all l (sg f q.2.2 o.dst q.1) q.2.1
   | none=>(o::l,f,S)
  | some false=>match o.dst with
   | some d=>oM P all l ((d,.a lH)::f) S
   | none=>(o::l,f,S)
  | none=>(o::l,f,S)
def aT.nil{all:List Oper}{st:eI}{K:eI->Prop}(h:K st):aT P ro all [] st K:=λ_ _ _ hs=>.nil ⟨st,h,rfl,hs⟩
def B0{f:Fm}{S:List SO}{op:Op}{q:SV×List SO×Option Nat}(h:dH P f S op=some q):tz op=true:=by
 cases op<;>first | rfl | (simp[dH] at h;done)
def aT.run{all:List Oper}{ds:List jT}{n:Nat}{K:eI->Prop}:∀{l l':List Oper} {f f':Fm} {S S':List SO},eG all n l=true->oM P all l f S=(l',f',S')->aT P ro all l' ⟨f',n,S',ds⟩ K->aT P ro all l ⟨f,n,S,ds⟩ K
 | [],l',f,f',S,S',_,h,hk=>by
  simp only[oM,m9] at h;obtain⟨rfl,rfl,rfl⟩:=h;exact hk
 | o::l,l',f,f',S,S',hst,h,hk=>by
  have stop:(o::l,f,S)=(l',f',S')->aT P ro all (o::l) ⟨f,n,S,ds⟩ K:=by
   intro e;simp only[m9] at e;obtain⟨rfl,rfl,rfl⟩:=e;exact hk
  obtain⟨hd,hst2⟩:=fz hst;unfold oM at h;split at h
  ·rename_i hw;have hw:=eX hst hw;split at h
   ·rename_i q hop;obtain⟨v,S1,kill⟩:=q;rintro ρ0 h0 ⟨af,n',hh,ds'⟩ ⟨rfl,rfl,θ,ρ,hR,hF⟩;obtain⟨rv,h',θ',e1,e2,e3,e4⟩:=OI hR hF hop;refine .cons (di hF hw) (.run (B0 hop) hd e1 ?_);intro x hx;rw[t6 hx];refine aT.run hst2 h hk ρ0 h0 _ ⟨rfl,rfl,θ',ρ,e2,?_⟩
    cases hdd:o.dst with
    | none=>exact hF.ki e4
    | some d=>rw[hdd] at hd;cases rv<;>exact hF.kill e4 (fO hd) e3
   ·exact stop h
  ·rename_i hw;have hw:=eX hst hw;split at h
   ·rename_i d hdst;rw[hdst] at hd;rintro ρ0 h0 ⟨af,n',hh,ds'⟩ ⟨rfl,rfl,θ,ρ,hR,hF⟩;refine .s hdst (di hF hw) hd ?_;exact aT.run hst2 h hk ρ0 h0 _ ⟨rfl,rfl,θ,ρ,hR,hF.put (fO hd) (by rw[VS])⟩
   ·exact stop h
  ·exact stop h
end
mutual
inductive Wk (S:List SO):SV->SV->Prop
 | any (v:SV):Wk S v .any
 | a (v:AV):Wk S (.a v) (.a v)
 | sl (n e:Nat) (cs:List SV):Wk S (.sl n e cs) (.sl n e cs)
 | im (ks:List AV) (vs:List SV):Wk S (.im ks vs) (.im ks vs)
 | ip (cs:List SV):Wk S (.ip cs) (.ip cs)
 | nil (e:Nat):Wk S (.a (.slice none 0 0 (some 0))) (.sl 0 e [])
 | ptr {o off:Nat} {cs ds:List SV}:S[o]?=some (.cells cs)->bg S (cs.drop off) ds->off<=cs.length->Wk S (.ptr o off) (.ip ds)
 | buf {o n e:Nat} {c:Option Nat} {cs ds:List SV}:S[o]?=some (.cells cs)->bg S (cs.take (n*e)) ds->n*e<=cs.length->Wk S (.buf o n e c) (.sl n e ds)
 | sub {o off n e:Nat} {c:Option Nat} {cs ds:List SV}:S[o]?=some (.cells cs)->bg S ((cs.drop off).take (n*e)) ds->off+n*e<=cs.length->Wk S (.sub o off n e c) (.sl n e ds)
 | e0 (e:Nat):Wk S (.e0 e) (.e0 e)
 | S8 (e:Nat):Wk S (.e0 e) (.sl 0 e [])
 | map {o:Nat} {ks:List AV} {vs ws:List SV} {b:Option (List Nat×Nat)}:S[o]?=some (.map ks vs b)->bg S vs ws->Wk S (.map o) (.im ks ws)
 | ag {cs ds:List SV}:bg S cs ds->Wk S (.ag cs) (.ag ds)
 | cm {cs ds:List SV}:bg S cs ds->Wk S (.cm cs) (.cm ds)
 | fn {g:FuncId} {a b c d:List SV}:bg S a c->bg S b d->Wk S (.fn g a b) (.fn g c d)
 | iface {t:TypeId} {v w:SV}:Wk S v w->Wk S (.iface t v) (.iface t w)
inductive bg (S:List SO):List SV->List SV->Prop
 | nil:bg S [] []
 | cons {v w:SV} {vs ws:List SV}:Wk S v w->bg S vs ws->bg S (v::vs) (w::ws)
end
def oL(θ:Nat->Loc)(ρ:jX)(h:H)(S:List SO):jX:=λid=>match ρ id with
 | some ob=>some ob
 | none=>@ite _ (∃o so,S[o]?=some so/\so≠.gone/\(θ o).id=id) (Classical.propDecidable _) (h.aU.get id) none
section
variable {θ:Nat->Loc} {ρ ρ0:jX} {P:Program} {h0:En} {h:H} {S:List SO}
def qB{id:Nat}{ob:AO}(hi:ρ id=some ob):oL θ ρ h S id=some ob:=by unfold oL;rw[hi]
def tN(hR:RS θ ρ0 ρ h0 h S){o:Nat}{so:SO}(hS:S[o]?=some so)(hg:so≠.gone):oL θ ρ h S (θ o).id=h.aU.get (θ o).id:=by
 unfold oL
 cases hr:ρ (θ o).id with
 | some ob=>rw[(hR.row _ _ hr).2.1]
 | none=>simp only;rw[ut ⟨o,so,hS,hg,rfl⟩]
mutual
def Wk.ok(hR:RS θ ρ0 ρ h0 h S):∀{v w:SV} {x:AV},Wk S v w->VS θ ρ v x->GS (oL θ ρ h S) w x
 | _,_,_,.any v,_=>by rw[GS];trivial
 | _,_,_,.a v,hv=>by rw[VS] at hv;rw[GS];exact hv
 | _,_,_,.sl n e cs,hv=>by rw[VS] at hv;exact hv.mono λ_ _ h=>qB h
 | _,_,_,.im ks vs,hv=>by rw[VS] at hv;exact hv.mono λ_ _ h=>qB h
 | _,_,_,.ip cs,hv=>by rw[VS] at hv;exact hv.mono λ_ _ h=>qB h
 | _,_,_,.nil e,hv=>by
  rw[VS] at hv;subst hv;rw[GS];exact .inl ⟨rfl,rfl,none,0,some 0,rfl,λ_=>rfl,λh=>un rfl h⟩
 | _,_,_,@Wk.ptr _ o off cs ds hS hw hle,hv=>by
  rw[VS] at hv;subst hv;obtain⟨_,aS,q1,q2,_⟩:=hR.obj o _ hS g9;rw[GS];refine⟨_,off,aS,aS.length-off,rfl,?_,?_,?_⟩
  ·unfold vn;rw[tN hR hS g9,q1]
  ·rw[q2.length];omega
  ·have:=bg.ok hR hw (q2.drop off);rw[ce (by rw[bd];exact b7 _)];exact this
 | _,_,_,@Wk.buf _ o n e c cs ds hS hw hle,hv=>by
  rw[VS] at hv;subst hv;obtain⟨_,aS,q1,q2,_⟩:=hR.obj o _ hS g9;rw[GS];refine .inr ⟨_,0,c,aS,rfl,?_,by rw[q2.length];omega,?_⟩
  ·unfold vn;rw[tN hR hS g9,q1]
  ·rw[bJ];exact bg.ok hR hw (q2.take _)
 | _,_,_,@Wk.sub _ o off n e c cs ds hS hw hle,hv=>by
  rw[VS] at hv;subst hv;obtain⟨_,aS,q1,q2,_⟩:=hR.obj o _ hS g9;rw[GS];refine .inr ⟨_,off,c,aS,rfl,?_,by rw[q2.length];omega,?_⟩
  ·unfold vn;rw[tN hR hS g9,q1]
  ·exact bg.ok hR hw ((q2.drop off).take _)
 | _,_,_,.e0 e,hv=>by rw[VS] at hv;rw[GS];exact hv
 | _,_,_,.S8 e,hv=>by
  rw[VS] at hv;obtain⟨o,e',rfl,ho⟩:=hv;rw[GS];exact .inl ⟨rfl,rfl,o,e',some 0,rfl,λ_=>rfl,ho⟩
 | _,_,_,@Wk.map _ o ks vs ws b hS hw,hv=>by
  rw[VS] at hv;subst hv;obtain⟨_,l,c,q1,q2,q3⟩:=hR.obj o _ hS g9;rw[GS];exact⟨_,l,c,rfl,by rw[tN hR hS g9,q1],⟨q2.1,q2.2.1,λp hp=>by cases hp⟩,bg.ok hR hw q3⟩
 | _,_,_,.ag hw,hv=>by rw[VS] at hv;obtain⟨aS,h1,h2⟩:=hv;rw[GS];exact⟨aS,h1,bg.ok hR hw h2⟩
 | _,_,_,.cm hw,hv=>by rw[VS] at hv;obtain⟨aS,h1,h2⟩:=hv;rw[GS];exact⟨aS,h1,bg.ok hR hw h2⟩
 | _,_,_,.fn hw1 hw2,hv=>by rw[VS] at hv;obtain⟨xs,ys,h1,h2,h3⟩:=hv;rw[GS];exact⟨xs,ys,h1,bg.ok hR hw1 h2,bg.ok hR hw2 h3⟩
 | _,_,_,.iface hw,hv=>by rw[VS] at hv;obtain⟨y,h1,h2⟩:=hv;rw[GS];exact⟨y,h1,Wk.ok hR hw h2⟩
def bg.ok(hR:RS θ ρ0 ρ h0 h S):∀{vs ws:List SV} {xs:List AV},bg S vs ws->cY θ ρ vs xs->jQ (oL θ ρ h S) ws xs
 | _,_,_,.nil,hv=>by rw[bf] at hv;rw[eP];exact hv
 | _,_,_,.cons h1 h2,hv=>by
  rw[aK] at hv;obtain⟨a,r,rfl,k1,k2⟩:=hv;rw[dL];exact⟨a,r,rfl,Wk.ok hR h1 k1,bg.ok hR h2 k2⟩
end
def RS.C4(hR:RS θ ρ0 ρ h0 h S):RS θ ρ0 ρ h0 h []:=⟨hR.ok,hR.nx,hR.ob,hR.fm,hR.lw,hR.ln,λo so h=>by simp at h,λo o' so so' _ h=>by simp at h,λid ob hi=>⟨(hR.row id ob hi).1,(hR.row id ob hi).2.1,λo so h=>by simp at h⟩,hR.mi⟩
def yZ:oL θ ρ h []=ρ:=by
 funext id;unfold oL
 cases hr:ρ id with
 | some ob=>rfl
 | none=>simp only;rw[v6];rintro⟨o,so,h,_⟩;simp at h
def Ms(ρ:jX)(h:H):Prop:=∀id ob,ρ id=some ob->id<h.next/\h.aU.get id=some ob
def SU(h:H)(ρ ρ':jX)(h':H):Prop:=∀id ob,ρ' id=some ob->ρ id=some ob\/(h.next<=id/\id<h'.next/\h'.aU.get id=some ob)
def pG(hR:RS θ ρ0 ρ h0 h S):Ms (oL θ ρ h S) h:=by
 intro id ob hi;unfold oL at hi
 cases hr:ρ id with
 | some ob'=>rw[hr] at hi;cases hi;exact⟨(hR.row id _ hr).1,(hR.row id _ hr).2.1⟩
 | none=>
  rw[hr] at hi;simp only at hi;split at hi
  ·rename_i hex;obtain⟨o,so,h1,h2,rfl⟩:=hex;obtain⟨⟨k1,k2,k3,_⟩,_⟩:=hR.obj o so h1 h2;exact⟨by rcases k1 with e | e<;>omega,hi⟩
  ·cases hi
def PC(P:Program)(g:FuncId)(args:List SV)(Q:SV->Prop):Prop:=∀ρ h avs,Ms ρ h->jQ ρ args avs->
 dU P (.func g) avs h (λv h'=>∃r ρ',Q r/\Over h.next h h'/\SU h ρ ρ' h'/\GS ρ' r v)
mutual
def vD:SV->Bool
 | .any=>true
 | .a _=>true
 | .ag cs=>HJ cs
 | .cm cs=>HJ cs
 | _=>false
def HJ:List SV->Bool
 | []=>true
 | d::ds=>vD d&&HJ ds
end
mutual
def GS.flat{ρ':jX}:∀{r:SV} {x:AV},vD r=true->GS ρ' r x->VS θ ρ r x
 | .any,_,_,_=>by rw[VS];trivial
 | .a v,x,_,hg=>by rw[GS] at hg;rw[VS];exact hg
 | .ag cs,x,hf,hg=>by rw[vD] at hf;rw[GS] at hg;obtain⟨aS,h1,h2⟩:=hg;rw[VS];exact⟨aS,h1,jQ.flat hf h2⟩
 | .cm cs,x,hf,hg=>by rw[vD] at hf;rw[GS] at hg;obtain⟨aS,h1,h2⟩:=hg;rw[VS];exact⟨aS,h1,jQ.flat hf h2⟩
 | .sl _ _ _,_,hf,_=>by simp[vD] at hf
 | .im _ _,_,hf,_=>by simp[vD] at hf
 | .ip _,_,hf,_=>by simp[vD] at hf
 | .ptr _ _,_,hf,_=>by simp[vD] at hf
 | .map _,_,hf,_=>by simp[vD] at hf
 | .buf _ _ _ _,_,hf,_=>by simp[vD] at hf
 | .sub _ _ _ _ _,_,hf,_=>by simp[vD] at hf
 | .e0 _,_,hf,_=>by simp[vD] at hf
 | .fn _ _ _,_,hf,_=>by simp[vD] at hf
 | .iface _ _,_,hf,_=>by simp[vD] at hf
def jQ.flat{ρ':jX}:∀{rs:List SV} {xs:List AV},HJ rs=true->jQ ρ' rs xs->cY θ ρ rs xs
 | [],xs,_,hg=>by rw[eP] at hg;rw[bf];exact hg
 | d::ds,xs,hf,hg=>by
  rw[HJ,ac] at hf;rw[dL] at hg;obtain⟨a,r,rfl,h1,h2⟩:=hg;rw[aK];exact⟨a,r,rfl,GS.flat hf.1 h1,jQ.flat hf.2 h2⟩
end
def iE(P:Program)(f:Fm)(c:Call):Option (FuncId×List SV):=match c.callee with
 | .value x=>match fD f x with
  | some (.fn g first cap)=>(pJ f c.args.toList).map λxs=>(g,(first++xs)++cap)
  | _=>none
 | .invoke r name=>match fD f r with
  | some (.iface t v)=>(je P t name).bind λg=>(pJ f c.args.toList).map λxs=>(g,v::xs)
  | _=>none
 | .builtin _=>none
def xW{f:Fm}{af:Nat->AV}{n:Nat}{wv:Nat->AV}(hF:FR θ ρ (aP f) af n wv){c:Call}{g:FuncId}{vs:List SV}(hc:iE P f c=some (g,vs)):∃xs cap,pb P (eh af n) c=some (.func g,xs,cap)/\cY θ ρ vs (xs++cap):=by
 unfold iE at hc;unfold pb;split at hc
 ·rename_i x hx;rw[hx];simp only;split at hc
  ·rename_i g' first cap hv
   obtain⟨xs,hxs,e⟩:=au hc;cases e;obtain⟨a,ha,ka⟩:=bL hF hv;rw[VS] at ka;obtain⟨fs,cs,rfl,k1,k2⟩:=ka;obtain⟨aS,hs,ks⟩:=l7 hF hxs;rw[ha];simp only;rw[hs];exact⟨fs++aS,cs,rfl,(k1.app ks).app k2⟩
  ·cases hc
 ·rename_i r name hx;rw[hx];simp only;split at hc
  ·rename_i t v hv;obtain⟨g',hg,hc⟩:=ul hc;obtain⟨xs,hxs,e⟩:=au hc;cases e;obtain⟨a,ha,ka⟩:=bL hF hv;rw[VS] at ka;obtain⟨y,rfl,k1⟩:=ka;obtain⟨aS,hs,ks⟩:=l7 hF hxs;rw[ha];simp only;rw[hg,m8,hs];refine⟨y::aS,[],rfl,?_⟩;rw[List.append_nil,aK];exact⟨y,aS,rfl,k1,ks⟩
  ·cases hc
 ·cases hc
def mY.mono{ρ':jX}{h':H}{L:Loc}{so:SO}(hx:mY θ ρ h L so)(hm:∀id ob,ρ id=some ob->ρ' id=some ob)(ho:h'.aU.get L.id=h.aU.get L.id)(hf:h'.dy.get L.bO=h.dy.get L.bO):mY θ ρ' h' L so:=by
 cases so with
 | cells cs=>obtain⟨aS,h1,h2,h3⟩:=hx;exact⟨aS,by rw[ho];exact h1,h2.mono hm,by rw[hf];exact h3⟩
 | map ks vs b=>obtain⟨l,c,h1,h2,h3⟩:=hx;exact⟨l,c,by rw[ho];exact h1,h2,h3.mono hm⟩
 | iter m bs c pos=>obtain⟨jO,h1,h2⟩:=hx;exact⟨jO,h1.mono hm,by rw[ho];exact h2⟩
 | oT ks vs bs c pos=>obtain⟨jO,l,h1,h2,h3,h4⟩:=hx;exact⟨jO,l,hm _ _ h1,h2,h3.mono hm,by rw[ho];exact h4⟩
 | gone=>trivial
 | loop c ls p f=>
  obtain⟨h1,h2,h3⟩:=hx;exact⟨h1,by rw[ho];exact h2,λi hi=>(h3 i hi).mono hm⟩
 | mC N=>exact⟨hx.1,by rw[ho];exact hx.2⟩
def F6(h:H)(ρ ρ':jX):jX:=λid=>if id<h.next then ρ id else ρ' id
def RS.call{ρ':jX}{h':H}(hR:RS θ ρ0 ρ h0 h S)(ho:Over h.next h h')(hn:SU h ρ ρ' h'):RS θ ρ0 (F6 h ρ ρ') h0 h' S/\(∀id ob,ρ id=some ob->F6 h ρ ρ' id=some ob)/\∀id ob,ρ' id=some ob->F6 h ρ ρ' id=some ob:=by
 have hold:∀id ob,ρ id=some ob->F6 h ρ ρ' id=some ob:=by
  intro id ob hi;unfold F6;rw[ut (hR.row id ob hi).1];exact hi
 have hlw:h'.low=h.low:=ho.low hR.ln;have hpr:∀j,h0.pr j->j<h.next:=λj hj=>aj (hR.ok.pr j hj) hR.nx;have hpf:∀j,h0.pf j->j<h.next:=λj hj=>aj (hR.ok.pf j hj) hR.nx;refine⟨⟨hR.ok,a9 hR.nx ho.next,λj hj=>(ho.aU j (hpr j hj)).trans (hR.ob j hj),λj hj=>(ho.dy j (hpf j hj)).trans (hR.fm j hj),by rw[hlw];exact hR.lw,by rw[hlw];exact a9 hR.ln ho.next,?_,hR.sep,?_,?_⟩,hold,?_⟩
 ·intro o so h1 h2;obtain⟨k,k2⟩:=hR.obj o so h1 h2;refine⟨k.mono ho.next,?_⟩
  have hid:(θ o).id<h.next:=by rcases k.e with e | e<;>rw[e];exact k.x.2;exact k.y.2
  exact k2.mono hold (ho.aU _ hid) (ho.dy _ k.f.2)
 ·intro id ob hi;unfold F6 at hi;split at hi
  ·rename_i hlt;obtain⟨r1,r2,r3⟩:=hR.row id ob hi;exact⟨aj r1 ho.next,by rw[ho.aU id r1];exact r2,r3⟩
  ·rename_i hlt
   rcases hn id ob hi with e | ⟨e1,e2,e3⟩
   ·exact un (hR.row id ob e).1 hlt
   ·refine⟨e2,e3,λo so h1 h2=>?_⟩;obtain⟨k,_⟩:=hR.obj o so h1 h2;have:=k.x.2;have:=k.y.2;omega
 ·intro id ob hi;unfold F6 at hi;split at hi
  ·exact hR.mi id ob hi
  ·exact .inr (λhj=>by have:=hpr id hj;omega)
 ·intro id ob hi;unfold F6;split
  ·rename_i hlt
   rcases hn id ob hi with e | ⟨e1,_⟩
   ·exact e
   ·omega
  ·exact hi
def FR.mono{ρ':jX}{f:Nat->SV}{af:Nat->AV}{n:Nat}{wv:Nat->AV}(hF:FR θ ρ f af n wv)(hm:∀id ob,ρ id=some ob->ρ' id=some ob):FR θ ρ' f af n wv:=⟨λi=>(hF.v i).mono hm,hF.u⟩
def aT.call{ro:Option Nat}{all:List Oper}{o:Oper}{l:List Oper}{f:Fm}{n:Nat}{ds:List jT}{K:eI->Prop}{d:Nat}{c:Call}{g:FuncId}{vs ws:List SV}{Q:SV->Prop}(hop:o.op=.call c)(hdst:o.dst=some d)(hw:uB all f n o=some true)(hdy:fG (.call c)=true)(hd:blt d n=true)
 (hc:iE P f c=some (g,vs)) (hq:PC P g ws Q) (hwk:bg S vs ws) (hfl:(∀r,Q r->vD r=true)\/bg [] vs ws) (hk:∀r,Q r->aT P ro all l ⟨(d,r)::f,n,S,ds⟩ K):aT P ro all (o::l) ⟨f,n,S,ds⟩ K:=by
 rintro ρ0 h0 ⟨af,n',h,ds'⟩ ⟨rfl,rfl,θ,ρ,hR,hF⟩;obtain⟨xs,cap,h1,h2⟩:=xW hF hc
 rcases hfl with hfl | hfl
 ·refine .c hop hdst (di hF hw) hdy hd h1 rfl (hq _ _ _ (pG hR) (hwk.ok hR h2)) ?_;rintro v h' ⟨r,ρ',k1,k2,k3,k4⟩;obtain⟨j1,j2,_⟩:=hR.call (ρ':=λ_=>none) k2 (λid ob hi=>by cases hi);exact hk r k1 ρ0 h0 _ ⟨rfl,rfl,θ,_,j1,(hF.mono j2).put (fO hd) (k4.flat (hfl r k1))⟩
 ·have:=hfl.ok hR.C4 h2;rw[yZ] at this;refine .c hop hdst (di hF hw) hdy hd h1 rfl (hq _ _ _ (λid ob hi=>⟨(hR.row id ob hi).1,(hR.row id ob hi).2.1⟩) this) ?_;rintro v h' ⟨r,ρ',k1,k2,k3,k4⟩;obtain⟨j1,j2,j3⟩:=hR.call k2 k3;exact hk r k1 ρ0 h0 _ ⟨rfl,rfl,θ,_,j1,(hF.mono j2).put (fO hd) ((k4.mono j3).vs)⟩
end
def kJ:Nat->List SV->Fm
 | _,[]=>[]
 | i,v::vs=>(i,v)::kJ (i+1) vs
def sL:∀(vs:List SV) (i j:Nat),aP (kJ i vs) j=if i<=j then (match vs[j-i]? with | some v=>v | none=>.any) else .any
 | [],i,j=>by simp[kJ,aP]
 | v::vs,i,j=>by
  show(if i=j then v else aP (kJ (i+1) vs) j)=_;rw[sL vs (i+1) j];by_cases h:i=j
  ·subst h;simp
  ·rw[v6 h];by_cases h2:i<=j
   ·rw[ut i5,ut h2];obtain⟨k,hk⟩:∃k,j-i=k+1:=⟨j-i-1,by omega⟩;rw[hk,ap,show j-(i+1)=k by omega]
   ·rw[v6 i5,v6 h2]
def oK(P:Program)(f:Fm)(S:List SO):List ResultVar->Option (List SV)
 | []=>some []
 | .tmp i::l=>(fD f (.tmp i)).bind λv=>(oK P f S l).map λb=>v::b
 | .cell a t::l=>(fD f (.tmp a)).bind λx=>(yJ P S t x).bind λv=>(oK P f S l).map λb=>v::b
def ew:List SV->SV
 | [v]=>v
 | vs=>.cm vs
def Bf(P:Program)(fn:Func)(Q:SV->Prop):Ex->eI->Prop:=λe st=>j8 e=true/\st.ds=[]/\∃vs r,oK P st.f st.S fn.results.toList=some vs/\Wk st.S (ew vs) r/\Q r
section
variable {P:Program}
def tK{θ:Nat->Loc}{ρ ρ0:jX}{h0:En}{h:H}{S:List SO}(hR:RS θ ρ0 ρ h0 h S){f:Fm}{af:Nat->AV}{n:Nat}{wv:Nat->AV}(hF:FR θ ρ (aP f) af n wv):∀{l:List ResultVar} {vs:List SV},oK P f S l=some vs->∃aS,(l.mapM λ
 | ResultVar.tmp i=>ev (eh af n) (.tmp i)
 | ResultVar.cell a tt=>match ev (eh af n) (.tmp a) with
  | some (.ptr (some (id,off)))=>h.load P tt id off
  | _=>none)=some aS/\cY θ ρ vs aS
 | [],vs,hv=>by
  simp only[oK,rc] at hv;subst hv;exact⟨[],rfl,by rw[bf]⟩
 | .tmp i::l,vs,hv=>by
  rw[oK] at hv;obtain⟨v0,hv0,hv⟩:=ul hv;obtain⟨b,hb,rfl⟩:=au hv;obtain⟨aS,h1,h2⟩:=tK hR hF hb;obtain⟨a,ha,ka⟩:=bL hF (x:=.tmp i) hv0;refine⟨a::aS,?_,by rw[aK];exact⟨a,aS,rfl,ka,h2⟩⟩;rw[dd];simp only[ha,h1];rfl
 | .cell a t::l,vs,hv=>by
  rw[oK] at hv;obtain⟨v0,hv0,hv⟩:=ul hv;obtain⟨v,hv1,hv⟩:=ul hv;obtain⟨b,hb,rfl⟩:=au hv;obtain⟨aS,h1,h2⟩:=tK hR hF hb;obtain⟨p,hp,kp⟩:=bL hF (x:=.tmp a) hv0;obtain⟨y,hy,ky⟩:=Ft hR kp hv1;refine⟨y::aS,?_,by rw[aK];exact⟨y,aS,rfl,ky,h2⟩⟩;rw[dd];simp only[hp,h1];unfold CU at hy;split at hy
  ·rename_i he;cases he;simp only[hy];rfl
  ·cases hy
def O2:List AV->AV
 | [v]=>v
 | vs=>.cm vs
def Ke{θ:Nat->Loc}{ρ:jX}{vs:List SV}{aS:List AV}(h:cY θ ρ vs aS):VS θ ρ (ew vs) (O2 aS):=by
 match vs,h with
 | [],h=>rw[bf] at h;subst h;simp only[ew];rw[VS];exact⟨[],rfl,by rw[bf]⟩
 | [v],h=>
  rw[aK] at h;obtain⟨a,r,rfl,h1,h2⟩:=h;rw[bf] at h2;subst h2;exact h1
 | v::w::vs,h=>
  have h':=h;rw[aK] at h;obtain⟨a,r,rfl,h1,h2⟩:=h;rw[aK] at h2;obtain⟨b,r2,rfl,h3,h4⟩:=h2;simp only[ew];rw[VS];exact⟨_,rfl,h'⟩
end
section
variable {θ:Nat->Loc} {ρ ρ0:jX} {P:Program} {h0:En} {h:H} {S S':List SO}
def uE(f:Fm):Fm->Prop
 | []=>True
 | (i,v)::l=>aP f i=v/\uE f l
def Ck(S:List SO):List SO->Nat->Prop
 | [],_=>True
 | s::l,k=>(s=.gone\/S[k]?=some s)/\Ck S l (k+1)
def Ck.get:∀{l:List SO} {k:Nat},Ck S l k->∀{o:Nat} {so:SO},l[o]?=some so->so≠.gone->S[k+o]?=some so
 | [],_,_,o,so,h,_=>by simp at h
 | s::l,k,hs,o,so,h,hg=>by
  obtain⟨h1,h2⟩:=hs
  cases o with
  | zero=>
   simp only[ax,rc] at h;subst h;exact h1.resolve_left hg
  | succ o=>
   simp only[ap] at h;have:=Ck.get h2 h hg;rw[show k+(o+1)=k+1+o by omega];exact this
def RS.sub(hR:RS θ ρ0 ρ h0 h S)(hs:∀(o:Nat) (so:SO),S'[o]?=some so->so≠.gone->S[o]?=some so):RS θ ρ0 ρ h0 h S':=
 ⟨hR.ok,hR.nx,hR.ob,hR.fm,hR.lw,hR.ln,λo so h1 h2=>hR.obj o so (hs o so h1 h2) h2,λo o' so so' h h1 h2 h3 h4=>hR.sep o o' so so' h (hs o so h1 h2) h2 (hs o' so' h3 h4) h4,
  λid ob hi=>⟨(hR.row id ob hi).1,(hR.row id ob hi).2.1,λo so h1 h2=>(hR.row id ob hi).2.2 o so (hs o so h1 h2) h2⟩,hR.mi⟩
def uE.get{f:Fm}:∀{f':Fm},uE f f'->∀i,aP f' i=aP f i\/aP f' i=.any
 | [],_,i=>.inr rfl
 | (d,v)::l,h,i=>by
  obtain⟨h1,h2⟩:=h;show(if d=i then v else aP l i)=_\/(if d=i then v else aP l i)=_;by_cases e:d=i
  ·subst e;rw[ut rfl];exact .inl h1.symm
  ·rw[v6 e];exact uE.get h2 i
def Fg.less{f f':Fm}{n:Nat}{ds:List jT}(hf:uE f f')(hs:Ck S S' 0):Fg ⟨f,n,S,ds⟩ ⟨f',n,S',ds⟩:=by
 refine⟨rfl,?_⟩;rintro ρ0 h0 ⟨af,n',h,ds'⟩ ⟨rfl,rfl,θ,ρ,hR,hF⟩;refine⟨rfl,rfl,θ,ρ,hR.sub λo so h1 h2=>by have:=hs.get h1 h2;rw[ba] at this;exact this,λi=>?_,hF.u⟩
 rcases hf.get i with e | e
 ·rw[e];exact hF.v i
 ·rw[e,VS];trivial
def lG(o:Nat)(so:SO):List SO:=dv o .gone++[so]
def rq{o p:Nat}{so s:SO}(h:(lG o so)[p]?=some s)(hg:s≠.gone):p=o/\s=so:=by
 unfold lG at h;rw[cn] at h;split at h
 ·rename_i hl;rw[cl] at hl;rw[List.getElem?_replicate,ut hl] at h;cases h;exact un rfl hg
 ·rename_i hl;rw[cl] at hl h
  have:p-o=0:=by
   apply Decidable.byContradiction;intro hn;rw[a7 (by simp;omega)] at h;cases h
  rw[this] at h;simp only[ax,rc] at h;exact⟨by omega,h.symm⟩
def xG(S:List SO)(f:Fm):Fm->Prop
 | []=>True
 | (i,v)::l=>(aP f i=v\/Wk S (aP f i) v)/\xG S f l
def xG.get{f:Fm}:∀{f':Fm},xG S f f'->∀i,aP f' i=aP f i\/Wk S (aP f i) (aP f' i)
 | [],_,i=>.inr (.any _)
 | (d,v)::l,h,i=>by
  obtain⟨h1,h2⟩:=h;show(if d=i then v else aP l i)=_\/Wk S _ (if d=i then v else aP l i);by_cases e:d=i
  ·subst e;rw[ut rfl]
   rcases h1 with h1 | h1
   ·exact .inl h1.symm
   ·exact .inr h1
  ·rw[v6 e];exact xG.get h2 i
def Fg.freeze{f f':Fm}{n:Nat}{ds:List jT}(o:Nat){so:SO}(hS:S[o]?=some so)(hg:so≠.gone)(hf:xG (lG o so) f f'):Fg ⟨f,n,S,ds⟩ ⟨f',n,S.set o .gone,ds⟩:=by
 refine⟨rfl,?_⟩;rintro ρ0 h0 ⟨af,n',h,ds'⟩ ⟨rfl,rfl,θ,ρ,hR,hF⟩
 have hsub:∀(p:Nat) (s:SO),(lG o so)[p]?=some s->s≠.gone->S[p]?=some s:=by
  intro p s h1 h2;obtain⟨rfl,rfl⟩:=rq h1 h2;exact hS
 have hR1:=hR.sub hsub
 have hset:∀(p:Nat) (s:SO),(S.set o .gone)[p]?=some s->s≠.gone->S[p]?=some s/\p≠o:=by
  intro p s h1 h2;by_cases hp:p=o
  ·subst hp;rw[ay (br hS)] at h1;cases h1;exact un rfl h2
  ·rw[a3 (λe=>hp e.symm)] at h1;exact⟨h1,hp⟩
 have hR2:=hR.sub (S':=S.set o .gone) λp s h1 h2=>(hset p s h1 h2).1;have hm:∀id ob,ρ id=some ob->oL θ ρ h (lG o so) id=some ob:=λid ob hi=>qB hi
 have key:∀id ob,oL θ ρ h (lG o so) id=some ob->ρ id=some ob\/id=(θ o).id:=by
  intro id ob hi;unfold oL at hi
  cases hr:ρ id with
  | some ob'=>rw[hr] at hi;exact .inl hi
  | none=>
   rw[hr] at hi;simp only at hi;split at hi
   ·rename_i hex;obtain⟨p,s,q1,q2,rfl⟩:=hex;obtain⟨rfl,_⟩:=rq q1 q2;exact .inr rfl
   ·cases hi
 refine⟨rfl,rfl,θ,oL θ ρ h (lG o so),⟨hR2.ok,hR2.nx,hR2.ob,hR2.fm,hR2.lw,hR2.ln,?_,hR2.sep,?_,?_⟩,λi=>?_,hF.u⟩
 ·intro p s h1 h2;obtain⟨k,k2⟩:=hR2.obj p s h1 h2;exact⟨k,k2.mono hm rfl rfl⟩
 ·intro id ob hi;obtain⟨r1,r2⟩:=pG hR1 id ob hi;refine⟨r1,r2,λp s h1 h2=>?_⟩
  rcases key id ob hi with e | e
  ·exact(hR2.row id ob e).2.2 p s h1 h2
  ·subst e;obtain⟨g1,g2⟩:=hset p s h1 h2;have sp:=hR.sep p o s so g2 g1 h2 hS hg;obtain⟨k,_⟩:=hR.obj o so hS hg
   rcases k.e with e | e<;>rw[e]
   ·exact⟨sp.xx.symm,sp.yx.symm⟩
   ·exact⟨sp.xy.symm,sp.yy.symm⟩
 ·intro id ob hi
  rcases key id ob hi with e | e
  ·exact hR.mi id ob e
  ·subst e;obtain⟨k,_⟩:=hR.obj o so hS hg;exact .inr (by rcases k.e with e | e<;>rw[e];exact k.x.1;exact k.y.1)
 ·rcases hf.get i with e | e
  ·rw[e];exact(hF.v i).mono hm
  ·exact(e.ok hR1 (hF.v i)).vs
mutual
def mg:SV->Bool
 | .a _=>true
 | .sl _ _ _=>true
 | .im _ _=>true
 | .ip _=>true
 | .any=>true
 | .e0 _=>true
 | .ag cs=>bW cs
 | .cm cs=>bW cs
 | .fn _ a b=>bW a&&bW b
 | .iface _ v=>mg v
 | _=>false
def bW:List SV->Bool
 | []=>true
 | d::ds=>mg d&&bW ds
end
mutual
def Wk.refl:∀{v:SV},mg v=true->Wk S v v
 | .a v,_=>.a v
 | .sl n e cs,_=>.sl n e cs
 | .im ks vs,_=>.im ks vs
 | .ip cs,_=>.ip cs
 | .any,_=>.any _
 | .e0 e,_=>.e0 e
 | .sub _ _ _ _ _,h=>by simp[mg] at h
 | .ag cs,h=>.ag (bg.refl (by rw[mg] at h;exact h))
 | .cm cs,h=>.cm (bg.refl (by rw[mg] at h;exact h))
 | .fn g a b,h=>by rw[mg,ac] at h;exact .fn (bg.refl h.1) (bg.refl h.2)
 | .iface t v,h=>.iface (Wk.refl (by rw[mg] at h;exact h))
 | .ptr _ _,h=>by simp[mg] at h
 | .map _,h=>by simp[mg] at h
 | .buf _ _ _ _,h=>by simp[mg] at h
def bg.refl:∀{vs:List SV},bW vs=true->bg S vs vs
 | [],_=>.nil
 | d::ds,h=>by rw[bW,ac] at h;exact .cons (Wk.refl h.1) (bg.refl h.2)
end
def bg.app:∀{a b c d:List SV},bg S a c->bg S b d->bg S (a++b) (c++d)
 | _,_,_,_,.nil,h=>h
 | _,_,_,_,.cons h1 h2,h=>.cons h1 (bg.app h2 h)
end
end
end Go.Ev
namespace Go.Proofs
open Go.Ev
section
variable (P:Program) (t:Nat)
abbrev fS(n:Nat)(z:List AV):Prop:=G5 P t=some (n,true)/\de P t=some (.agg z)/\Pr P t=some none/\Q5 P t=none/\pa P t=true
abbrev fL(e n:Nat):Prop:=G5 P t=some (1,false)/\de P t=some (.slice none 0 0 (some 0))/\HA P t=some (e,n)/\Q5 P t=none/\iS P t=.sl/\pa P t=true
abbrev fA(n k e s:Nat)(z:AV):Prop:=G5 P t=some (n,true)/\de P t=some (.agg (dv k z))/\Q5 P t=some (k,e,s)/\Pr P t=some (some s)/\iS P t=.other
abbrev fM(k e:Nat):Prop:=G5 P t=some (1,false)/\de P t=some (.map none)/\dn P t=some (k,e)/\iS P t=.map
abbrev fT:Prop:=G5 P t=some (1,false)/\de P t=some (.str [])/\iS P t=.str/\pa P t=true
abbrev fI(k:IntKind):Prop:=G5 P t=some (1,false)/\de P t=some (.int k 0)/\pa P t=true/\iS P t=.other/\isInt P t=true
abbrev fB(z:AV):Prop:=G5 P t=some (1,false)/\de P t=some z/\pa P t=true
end
abbrev k0(P:Program)(t i a b c:Nat):Prop:=HK P t i=some (a,b,c)
abbrev k1(P:Program)(t a b c:Nat):Prop:=k0 P t 0 a b c
abbrev k2(P:Program)(t a b c d e f:Nat):Prop:=k1 P t a b c/\k0 P t 1 d e f
abbrev k3(P:Program)(t a b c d e f g h i:Nat):Prop:=k2 P t a b c d e f/\k0 P t 2 g h i
abbrev k4(P:Program)(t a b c d e f g h i j k l:Nat):Prop:=k3 P t a b c d e f g h i/\k0 P t 3 j k l
abbrev k5(P:Program)(t a b c d e f g h i j k l m n o:Nat):Prop:=k4 P t a b c d e f g h i j k l/\k0 P t 4 m n o
abbrev k6(P:Program)(t a b c d e f g h i j k l m n o p q r:Nat):Prop:=k5 P t a b c d e f g h i j k l m n o/\k0 P t 5 p q r
abbrev k7(P:Program)(t a b c d e f g h i j k l m n o p q r s u v:Nat):Prop:=k6 P t a b c d e f g h i j k l m n o p q r/\k0 P t 6 s u v
abbrev k8(P:Program)(t a b c d e f g h i j k l m n o p q r s u v w x y:Nat):Prop:=k7 P t a b c d e f g h i j k l m n o p q r s u v/\k0 P t 7 w x y
abbrev k9(P:Program)(t a b c d e f g h i j k l m n o p q r s u v w x y z a1 b1:Nat):Prop:=k8 P t a b c d e f g h i j k l m n o p q r s u v w x y/\k0 P t 8 z a1 b1
abbrev Vb(P:Program)(t a b c d e f g h i j k l m n o p q r s u v w x y z a1 b1 c1 d1 e1:Nat):Prop:=k9 P t a b c d e f g h i j k l m n o p q r s u v w x y z a1 b1/\k0 P t 9 c1 d1 e1
abbrev Vc(P:Program)(t a b c d e f g h i j k l m n o p q r s u v w x y z a1 b1 c1 d1 e1 f1 g1 h1:Nat):Prop:=Vb P t a b c d e f g h i j k l m n o p q r s u v w x y z a1 b1 c1 d1 e1/\k0 P t 10 f1 g1 h1
abbrev o0(P:Program)(t:Nat):Prop:=G5 P t=some (1,false)
abbrev o9(P:Program)(a b c d e f g h i j k l:Nat):Prop:=o0 P a/\o0 P b/\o0 P c/\o0 P d/\o0 P e/\o0 P f/\o0 P g/\o0 P h/\o0 P i/\o0 P j/\o0 P k/\o0 P l
abbrev s0(P:Program)(t:Nat):Prop:=fS P t 1 [.slice none 0 0 (some 0)]/\k1 P t 0 22 1
abbrev s1(P:Program)(t:Nat):Prop:=fS P t 3 [.int .i64 0,.int .i64 0,.slice none 0 0 (some 0)]/\k3 P t 0 3 1 1 3 1 2 25 1
abbrev s2(P:Program)(t:Nat):Prop:=fS P t 4 [.slice none 0 0 (some 0),.int .i64 0,.int .i64 0,.slice none 0 0 (some 0)]/\k2 P t 0 24 1 1 27 3
abbrev s3(P:Program)(t:Nat):Prop:=fS P t 6 [.slice none 0 0 (some 0),.slice none 0 0 (some 0),.slice none 0 0 (some 0),.slice none 0 0 (some 0),.slice none 0 0 (some 0),.slice none 0 0 (some 0)]/\k6 P t 0 30 1 1 31 1 2 32 1 3 33 1 4 30 1 5 34 1
abbrev s4(P:Program)(t:Nat):Prop:=fS P t 1 [.slice none 0 0 (some 0)]/\k1 P t 0 44 1
abbrev s5(P:Program)(t:Nat):Prop:=fS P t 2 [.int .i64 0,.int .i64 0]/\k2 P t 0 3 1 1 3 1
abbrev s6(P:Program)(t:Nat):Prop:=fS P t 6 [.int .i64 0,.int .i64 0,.int .i64 0,.int .i64 0,.int .i64 0,.int .i64 0]/\k3 P t 0 52 2 2 52 2 4 52 2
abbrev s7(P:Program)(t:Nat):Prop:=fS P t 14 [.str [],.str [],.str [],.str [],.int .i64 0,.int .i64 0,.bool false,.slice none 0 0 (some 0),.int .i64 0,.int .i64 0,.int .i64 0,.int .i64 0,.int .i64 0,.int .i64 0]/\k9 P t 0 9 1 1 9 1 2 9 1 3 9 1 4 3 1 5 3 1 6 4 1 7 50 1 8 54 6
abbrev s8(P:Program)(t:Nat):Prop:=fS P t 3 [.str [],.bool false,.slice none 0 0 (some 0)]/\k3 P t 0 9 1 1 4 1 2 59 1
abbrev s9(P:Program)(t:Nat):Prop:=fS P t 3 [.int .i64 0,.str [],.str []]/\k3 P t 0 3 1 1 9 1 2 9 1
abbrev UC(P:Program)(t:Nat):Prop:=fS P t 6 [.int .i64 0,.str [],.str [],.int .i64 0,.int .i64 0,.slice none 0 0 (some 0)]/\k6 P t 0 3 1 1 9 1 2 9 1 3 3 1 4 3 1 5 69 1
abbrev UD(P:Program)(t:Nat):Prop:=fS P t 8 [.str [],.str [],.int .i64 0,.str [],.str [],.int .i64 0,.int .i64 0,.slice none 0 0 (some 0)]/\k3 P t 0 9 1 1 9 1 2 71 6
abbrev UE(P:Program)(t:Nat):Prop:=fS P t 4 [.str [],.str [],.slice none 0 0 (some 0),.slice none 0 0 (some 0)]/\k4 P t 0 9 1 1 9 1 2 80 1 3 80 1
abbrev UF(P:Program)(t:Nat):Prop:=fS P t 14 [.int .i64 0,.int .i64 0,.str [],.str [],.str [],.str [],.str [],.str [],.int .i64 0,.int .i64 0,.int .i64 0,.int .i64 0,.int .i64 0,.int .i64 0]/\k9 P t 0 3 1 1 3 1 2 9 1 3 9 1 4 9 1 5 9 1 6 9 1 7 9 1 8 88 6
abbrev TX(P:Program)(t:Nat):Prop:=fS P t 3 [.str [],.str [],.int .i64 0]/\k3 P t 0 9 1 1 9 1 2 3 1
abbrev UG(P:Program)(t:Nat):Prop:=fS P t 2 [.slice none 0 0 (some 0),.map none]/\k2 P t 0 44 1 1 118 1
abbrev UH(P:Program)(t:Nat):Prop:=fS P t 2 [.slice none 0 0 (some 0),.int .i64 0]/\k2 P t 0 46 1 1 3 1
abbrev UI(P:Program)(t:Nat):Prop:=fS P t 28 [.str [],.str [],.str [],.str [],.int .i64 0,.int .i64 0,.bool false,.slice none 0 0 (some 0),.int .i64 0,.int .i64 0,.int .i64 0,.int .i64 0,.int .i64 0,.int .i64 0,.str [],.str [],.str [],.str [],.int .i64 0,.int .i64 0,.bool false,.slice none 0 0 (some 0),.int .i64 0,.int .i64 0,.int .i64 0,.int .i64 0,.int .i64 0,.int .i64 0]/\k2 P t 0 56 14 14 56 14
abbrev UJ(P:Program)(t:Nat):Prop:=fS P t 5 [.str [],.str [],.str [],.str [],.int .i64 0]/\k5 P t 0 9 1 1 9 1 2 9 1 3 9 1 4 3 1
abbrev UK(P:Program)(t:Nat):Prop:=fS P t 5 [.str [],.str [],.str [],.int .i64 0,.int .i64 0]/\k5 P t 0 9 1 1 9 1 2 9 1 3 3 1 4 3 1
abbrev UL(P:Program)(t:Nat):Prop:=fS P t 3 [.str [],.slice none 0 0 (some 0),.int .i64 0]/\k3 P t 0 9 1 1 66 1 2 3 1
abbrev TY(P:Program)(t:Nat):Prop:=fS P t 2 [.str [],.str []]/\k2 P t 0 9 1 1 9 1
abbrev UM(P:Program)(t:Nat):Prop:=fS P t 6 [.int .i64 0,.int .i64 0,.int .i64 0,.int .i64 0,.int .i64 0,.int .i64 0]/\k1 P t 0 88 6
abbrev UN(P:Program)(t:Nat):Prop:=fS P t 5 [.str [],.str [],.str [],.int .i64 0,.int .i64 0]/\k1 P t 0 153 5
abbrev UO(P:Program)(t:Nat):Prop:=fS P t 4 [.ptr none,.ptr none,.ptr none,.str []]/\k4 P t 0 17 1 1 17 1 2 17 1 3 9 1
abbrev UP(P:Program)(t:Nat):Prop:=fS P t 0 []/\k1 P t 0 357 0
abbrev UQ(P:Program)(t:Nat):Prop:=fS P t 11 [.int .u64 0,.int .u64 0,.int .u32 0,.int .u8 0,.int .u8 0,.int .u8 0,.int .u8 0,.eb,.ptr none,.int .i32 0,.int .i32 0]/\Vc P t 0 12 1 1 12 1 2 281 1 3 361 1 4 5 1 5 5 1 6 362 1 7 363 1 8 364 1 9 365 1 10 366 1
abbrev UT(P:Program):Prop:=s0 P 23/\s0 P 24/\s1 P 26/\s1 P 27/\s2 P 28/\s2 P 29/\s3 P 35/\s3 P 36/\s4 P 45/\s4 P 46/\s5 P 51/\s5 P 52/\s6 P 53/\s6 P 54/\s6 P 87/\s6 P 88/\s7 P 55/\s7 P 56/\s8 P 60/\s8 P 61/\s9 P 64/\s9 P 65/\UC P 70/\UC P 71
def OW:UT bw:=by
 (repeat' apply bc)<;>(change _=_;kernel_rfl)
abbrev UU(P:Program):Prop:=UD P 72/\UD P 73/\UE P 81/\UE P 82/\UF P 89/\UF P 90/\TX P 95/\TX P 96/\TX P 136/\TX P 137/\UG P 119/\UG P 120/\UH P 127/\UH P 128/\UI P 142/\UI P 143/\UJ P 146/\UJ P 147/\UK P 152/\UK P 153/\UL P 154/\UL P 155/\TY P 197/\TY P 198
def OX:UU bw:=by
 (repeat' apply bc)<;>(change _=_;kernel_rfl)
abbrev UW(P:Program):Prop:=TY P 247/\TY P 248/\UM P 202/\UM P 203/\UN P 226/\UN P 227/\UO P 355/\UO P 356/\UP P 358/\UP P 359/\UQ P 367/\UQ P 368/\o9 P 1 38 39 40 42 43 49 58 63 67 68 75/\o9 P 76 77 78 79 83 84 85 86 91 92 94 97/\o9 P 100 101 102 103 104 105 106 107 108 110 111 112/\o9 P 113 114 116 117 121 124 125 126 129 130 131 132/\o9 P 135 138 139 140 141 144 145 148 149 150 151 156/\o9 P 157 158 159 160 161 162 163 164 165 166 167 168/\o9 P 169 170 172 173 174 175 177 178 179 180 182 183/\o9 P 184 185 186 187 188 189 190 191 192 193 194 195/\o9 P 196 199 201 204 205 206 207 208 209 211 212 213/\o9 P 214 215 216 218 219 220 221 222 223 224 225 228/\o9 P 230 231 232 233 234 235 236 237 238 239 240 242/\o9 P 243 244 246 249 252 254 255 256 257 258 259 260
def OY:UW bw:=by
 (repeat' apply bc)<;>(change _=_;kernel_rfl)
abbrev UX(P:Program):Prop:=o9 P 261 262 263 264 265 266 267 268 269 270 272 275/\o9 P 276 277 278 279 280 282 284 285 286 289 290 291/\o9 P 292 293 294 295 296 297 298 299 300 301 302 303/\o9 P 304 305 306 307 308 309 311 312 313 314 315 316/\o9 P 317 319 320 321 323 324 325 326 327 328 330 331/\o9 P 332 333 334 335 336 337 338 339 340 341 343 346/\o9 P 347 348 349 350 351 352 353 354 360 363 369 371/\fI P 2 .i64/\fI P 3 .i64/\fB P 4 (.bool false)/\fI P 5 .u8/\fT P 9/\fI P 21 .i32/\fL P 22 61 3/\fL P 25 27 3/\fL P 30 73 8/\fL P 31 147 5/\fL P 32 153 5/\fL P 33 96 3/\fL P 34 82 4/\fL P 37 90 14/\fL P 41 65 3/\fL P 44 56 14/\fI P 47 .i64
def OZ:UX bw:=by
 (repeat' apply bc)<;>(change _=_;kernel_rfl)
abbrev UY(P:Program):Prop:=fL P 50 198 2/\fL P 59 155 3/\fL P 66 9 1/\fL P 69 71 6/\fI P 74 .i64/\fL P 80 3 1/\fM P 98 65 4/\fM P 99 65 4/\fB P 115 (.ptr none)/\fM P 118 9 3/\fM P 123 9 9/\fM P 133 9 4/\fM P 134 137 4/\fL P 200 52 2/\fI P 210 .u64/\fA P 241 256 256 5 1 (.int .u8 0)/\fM P 245 248 4/\fB P 250 (.ptr none)/\fA P 251 3 3 250 1 (.ptr none)/\fB P 253 (.ptr none)/\fI P 271 .i64/\fI P 273 .i64/\fI P 281 .u32/\fI P 283 .u64
def O0:UY bw:=by
 (repeat' apply bc)<;>(change _=_;kernel_rfl)
abbrev UZ(P:Program):Prop:=fM P 288 9 286/\fA P 310 8 8 9 1 (.str [])/\fI P 318 .u64/\fB P 322 (.ptr none)/\fL P 329 108 1/\fL P 342 271 1/\fB P 344 (.ptr none)/\fA P 357 0 0 16 1 (.ptr none)/\fI P 361 .u8/\fI P 362 .u8/\fB P 364 (.ptr none)/\fI P 365 .i32/\fI P 366 .i32
def O1:UZ bw:=by
 (repeat' apply bc)<;>(change _=_;kernel_rfl)
def aJ:UT bw/\UU bw/\UW bw/\UX bw/\UY bw/\UZ bw:=⟨OW,OX,OY,OZ,O0,O1⟩
end Go.Proofs
namespace Go.Ev
def y2{a b:Prop}(a1:a)(b1:b):a/\b:=⟨a1,b1⟩
def y3{a b c:Prop}(a1:a)(b1:b)(c1:c):a/\b/\c:=⟨a1,b1,c1⟩
def y4{a b c d:Prop}(a1:a)(b1:b)(c1:c)(d1:d):a/\b/\c/\d:=⟨a1,b1,c1,d1⟩
def y5{a b c d e:Prop}(a1:a)(b1:b)(c1:c)(d1:d)(e1:e):a/\b/\c/\d/\e:=⟨a1,b1,c1,d1,e1⟩
def y6{a b c d e f:Prop}(a1:a)(b1:b)(c1:c)(d1:d)(e1:e)(f1:f):a/\b/\c/\d/\e/\f:=⟨a1,b1,c1,d1,e1,f1⟩
def y7{a b c d e f g:Prop}(a1:a)(b1:b)(c1:c)(d1:d)(e1:e)(f1:f)(g1:g):a/\b/\c/\d/\e/\f/\g:=⟨a1,b1,c1,d1,e1,f1,g1⟩
def y8{a b c d e f g h:Prop}(a1:a)(b1:b)(c1:c)(d1:d)(e1:e)(f1:f)(g1:g)(h1:h):a/\b/\c/\d/\e/\f/\g/\h:=⟨a1,b1,c1,d1,e1,f1,g1,h1⟩
section
variable {P:Program} {f:Fm} {S:List SO} {o:Nat}
def lY(v:AV):names o (.a v)=false:=by rw[names];all_goals (intros;contradiction)
def FH(n e:Nat)(cs:List SV):names o (.sl n e cs)=false:=by rw[names];all_goals (intros;contradiction)
def FF(ks:List AV)(vs:List SV):names o (.im ks vs)=false:=by rw[names];all_goals (intros;contradiction)
def FG(cs:List SV):names o (.ip cs)=false:=by rw[names];all_goals (intros;contradiction)
def BM:names o .any=false:=by rw[names];all_goals (intros;contradiction)
def Px(k:IntKind)(n:Int):cL (.a (.int k n))=some [.a (.int k n)]:=rfl
def Py(s:List Nat):cL (.a (.str s))=some [.a (.str s)]:=rfl
def Pw(b:Bool):cL (.a (.bool b))=some [.a (.bool b)]:=rfl
def KL(o:Option (Nat×Nat))(n e:Nat)(c:Option Nat):cL (.a (.slice o n e c))=some [.a (.slice o n e c)]:=rfl
def MT(n e:Nat)(cs:List SV):cL (.sl n e cs)=some [.sl n e cs]:=rfl
def MR(ks:List AV)(vs:List SV):cL (.im ks vs)=some [.im ks vs]:=rfl
def MS(cs:List SV):cL (.ip cs)=some [.ip cs]:=rfl
def Hv(o off:Nat):cL (.ptr o off)=some [.ptr o off]:=rfl
def Hu(o:Nat):cL (.map o)=some [.map o]:=rfl
def FE(e:Nat):names o (.e0 e)=false:=by rw[names];all_goals (intros;contradiction)
def KQ(o off n e:Nat)(c:Option Nat):cL (.sub o off n e c)=some [.sub o off n e c]:=rfl
def MP(e:Nat):cL (.e0 e)=some [.e0 e]:=rfl
def KO(o n e:Nat)(c:Option Nat):cL (.buf o n e c)=some [.buf o n e c]:=rfl
def KP(g:FuncId)(a b:List SV):cL (.fn g a b)=some [.fn g a b]:=rfl
def MQ(t:TypeId)(v:SV):cL (.iface t v)=some [.iface t v]:=rfl
def Qp(n e:Nat)(cs:List SV):e9 (.sl n e cs)=true:=rfl
def Qm(ks:List AV)(vs:List SV):e9 (.im ks vs)=true:=rfl
def Qn(cs:List SV):e9 (.ip cs)=true:=rfl
def N0(o off:Nat):e9 (.ptr o off)=true:=rfl
def NZ(o:Nat):e9 (.map o)=true:=rfl
def N1(o off n e:Nat)(c:Option Nat):e9 (.sub o off n e c)=true:=rfl
def Qj(e:Nat):e9 (.e0 e)=true:=rfl
def NY(o n e:Nat)(c:Option Nat):e9 (.buf o n e c)=true:=rfl
def Qk(g:FuncId)(a b:List SV):e9 (.fn g a b)=true:=rfl
def Ql(t:TypeId)(v:SV):e9 (.iface t v)=true:=rfl
def Sc(k:IntKind)(n:Int):jS (.int k n)=true:=rfl
def Sd(s:List Nat):jS (.str s)=true:=rfl
def Sb(b:Bool):jS (.bool b)=true:=rfl
def Qi(o:Option (Nat×Nat))(n e:Nat)(c:Option Nat):jS (.slice o n e c)=true:=rfl
def Ts(k:IntKind)(n:Int):uc (.int k n)=.a (.int k n):=rfl
def Tt(s:List Nat):uc (.str s)=.a (.str s):=rfl
def Tq(b:Bool):uc (.bool b)=.a (.bool b):=rfl
def Sv(o:Option (Nat×Nat))(n e:Nat)(c:Option Nat):uc (.slice o n e c)=.a (.slice o n e c):=rfl
def QQ(o:Option (Nat×Nat)):uc (.ptr o)=.a (.ptr o):=rfl
def QP(o:Option Nat):uc (.map o)=.a (.map o):=rfl
def Su:uc .eb=.a .eb:=rfl
def bH(v w:SV)(l:List SV):ew (v::w::l)=.cm (v::w::l):=rfl
def Sp(x:Operand)(aS:Array Operand)(ats:Array TypeId):dH P f S (.call { callee:=.value x,args:=aS,argTypes:=ats })=none:=rfl
def Sn(x:Operand)(m:String)(aS:Array Operand)(ats:Array TypeId):dH P f S (.call { callee:=.invoke x m,args:=aS,argTypes:=ats })=none:=rfl
def oF(k:IntKind)(n:Nat):c7 (.int k (n:Int))=some n:=rfl
def Lo(k:IntKind)(n:Nat):c7 (.int k (OfNat.ofNat n))=some n:=rfl
def KM(cs:List AV):(AV.agg cs).cells=cs:=rfl
def Uh:=y8 @oM.eq_1 @oM.eq_2 @dH.eq_1 @dH.eq_2 @dH.eq_3 @dH.eq_4 @dH.eq_5 (y8 @dH.eq_6 @dH.eq_7 @dH.eq_8 @dH.eq_9 @dH.eq_10 @dH.eq_11 @dH.eq_12 (y8 @dH.eq_13 @dH.eq_14 @dH.eq_15 @dH.eq_16 @dH.eq_17 @dH.eq_18 @dH.eq_19 (y8 @dH.eq_20 @dH.eq_21 @dH.eq_22 @dH.eq_23 @dH.eq_24 @dH.eq_25 @dH.eq_26 (y8 @dH.eq_27 @yJ.eq_1 @yJ.eq_2 @tE.eq_1 @aP.eq_1 @aP.eq_2 @sg.eq_1 (y5 @sg.eq_2 @ki.eq_1 @ki.eq_2 @cO.eq_1 @cO.eq_2)))))
def Ui:=y8 @Ha.eq_1 @Ha.eq_2 @fD.eq_1 @fD.eq_2 @fD.eq_3 @fD.eq_4 @pJ.eq_1 (y8 @pJ.eq_2 @lB.eq_1 @lB.eq_2 @wK.eq_1 @wK.eq_2 @td.eq_1 @td.eq_2 (y8 @Ct.eq_1 @nh.eq_1 @cN.eq_1 @cN.eq_2 @cN.eq_3 @iP.eq_1 @iP.eq_2 (y8 @H5.eq_1 @Ay.eq_1 @Ay.eq_2 @Ay.eq_3 @yI.eq_1 @yI.eq_2 @yI.eq_3 (y8 @yI.eq_4 @yI.eq_5 @tR.eq_1 @tR.eq_2 @tR.eq_3 @ek.eq_1 @fW.eq_1 (y3 @AJ.eq_1 @AJ.eq_2 @gJ.eq_1)))))
def Uj:=y8 @gJ.eq_2 @gJ.eq_3 @gJ.eq_4 @gJ.eq_5 @J8.eq_1 @Dk.eq_1 @bG.eq_1 (y8 @bG.eq_2 @bG.eq_3 @bG.eq_4 @bG.eq_5 @pg.eq_1 @yi.eq_1 @pq.eq_1 (y8 @CN.eq_1 @mR.eq_1 @mR.eq_2 @mR.eq_3 @mR.eq_4 @cE.eq_1 @cE.eq_2 (y8 @cE.eq_3 @cE.eq_4 @cE.eq_5 @cE.eq_6 @cE.eq_7 @eK.eq_1 @oK.eq_1 (y8 @oK.eq_2 @oK.eq_3 @ew.eq_1 @iE.eq_1 @uc.eq_1 @cL.eq_1 @cL.eq_2 (y8 @cL.eq_3 @e9.eq_1 @e9.eq_2 @e9.eq_3 @e9.eq_4 @names.eq_1 @names.eq_2 (y2 @names.eq_3 @names.eq_4))))))
def Uk:=y8 @names.eq_5 @names.eq_6 @names.eq_7 @e8.eq_1 @e8.eq_2 @aY.eq_1 @uE.eq_1 (y8 @uE.eq_2 @Ck.eq_1 @Ck.eq_2 @kJ.eq_1 @kJ.eq_2 @lY @FH (y8 @FF @FG @BM @KL @Px @Py @Pw (y8 @MT @MR @MS @KO @MQ @Qp @Qm (y8 @Qn @N0 @NZ @NY @Qk @Ql @Sc (y5 @Sd @Sb @Qi @Ts @Tt)))))
def Ul:=y8 @Tq @Sv @QQ @QP @Su @bH @Sp (y8 @Sn @oF @Hv @Hu @KP @Lo @KM (y8 @KN @SB @MJ @MN @MM @MK @xU (y8 @ML (λ{P:Program} {t:TypeId} {a b:Int}=>@Ju P t a b _ BC) (λ{P:Program} {t:TypeId} {a b:Int}=>@Cq P t a b _ BC) (λ{P:Program} {t:TypeId} {a b:Int}=>@Jt P t a b _ BC) (λ{P:Program} {t:TypeId} {a b:Int}=>@Js P t a b _ BC) (λ{P:Program} {t:TypeId} {a b:Int}=>@Cp P t a b _ BC) (λ{P:Program} {t:TypeId} {a b:Int}=>@sO P t a b _ BC) (y8 (λ{P:Program} {t:TypeId} {a b:Int}=>@Ju P t a b _ Le) (λ{P:Program} {t:TypeId} {a b:Int}=>@Cq P t a b _ Le) (λ{P:Program} {t:TypeId} {a b:Int}=>@Jt P t a b _ Le) (λ{P:Program} {t:TypeId} {a b:Int}=>@Js P t a b _ Le) (λ{P:Program} {t:TypeId} {a b:Int}=>@Cp P t a b _ Le) (λ{P:Program} {t:TypeId} {a b:Int}=>@sO P t a b _ Le) @names.eq_8 (y8 @yI.eq_6 @yI.eq_7 @tR.eq_4 @tR.eq_5 @bG.eq_6 @bG.eq_7 @mR.eq_6 (y8 @mR.eq_8 @mR.eq_9 @mR.eq_10 @gJ.eq_6 @gJ.eq_7 @gJ.eq_8 @MA.eq_1 (y8 @MA.eq_2 @MA.eq_3 @KF.eq_1 @KF.eq_2 @KF.eq_3 @KF.eq_4 @JB.eq_1 (y8 @M4.eq_1 @Cw.eq_1 @SJ.eq_1 @SJ.eq_2 @Ht.eq_1 @Ht.eq_2 @Ht.eq_3 (y8 @Ht.eq_4 @FE @KQ @MP @N1 @Qj @w6.eq_1 @xr.eq_1)))))))))
def dJ:=y5 Uh Ui Uj Uk Ul
end
noncomputable section
def kh:Op->Bool
 | .move _ | .assign _ | .pick _ _ _ | .build _ _ | .nilCheck _ | .binOp _ _ _ _ _ | .unOp _ _ _ | .convert _ _ _ | .fieldAddr _ _ _ | .field _ _ _ | .indexAddr _ _ _ | .index _ _ _ | .extract _ _ | .load _ _ | .lookup _ _ _ _ | .slice _ _ _ _ _=>true
 | .makeFunc (.func _) _ _=>true
 | .makeFunc (.method _) _ _=>true
 | .call { callee:=.builtin .len,.. }=>true
 | _=>false
def HS:Op->Bool
 | .load _ _ | .lookup _ _ _ _ | .call _ | .slice _ _ _ _ _=>true
 | _=>false
def OJ{P:Program}{f:Fm}{S S':List SO}{op:Op}(hr:kh op=true){v:SV}{kill:Option Nat}(h:dH P f S op=some (v,S',kill)):S'=S/\kill=none:=by
 cases op with
 | move x=>obtain⟨_,_,e⟩:=au h;cases e;exact⟨rfl,rfl⟩
 | assign x=>obtain⟨_,_,e⟩:=au h;cases e;exact⟨rfl,rfl⟩
 | pick c a b=>obtain⟨_,_,e⟩:=au h;cases e;exact⟨rfl,rfl⟩
 | build tt ps=>obtain⟨_,_,h⟩:=ul h;obtain⟨_,_,e⟩:=au h;cases e;exact⟨rfl,rfl⟩
 | nilCheck x=>obtain⟨_,_,h⟩:=ul h;obtain⟨_,_,e⟩:=au h;cases e;exact⟨rfl,rfl⟩
 | binOp op xt x y yt=>
  obtain⟨_,_,h⟩:=ul h;obtain⟨_,_,h⟩:=ul h;obtain⟨_,_,h⟩:=ul h;obtain⟨_,_,h⟩:=ul h;obtain⟨_,_,e⟩:=au h;cases e;exact⟨rfl,rfl⟩
 | unOp op xt x=>
  obtain⟨_,_,h⟩:=ul h;obtain⟨_,_,h⟩:=ul h;obtain⟨_,_,e⟩:=au h;cases e;exact⟨rfl,rfl⟩
 | convert s d x=>
  obtain⟨_,_,h⟩:=ul h;obtain⟨_,_,h⟩:=ul h;obtain⟨_,_,e⟩:=au h;cases e;exact⟨rfl,rfl⟩
 | fieldAddr s x fl=>obtain⟨_,_,h⟩:=ul h;obtain⟨_,_,e⟩:=au h;cases e;exact⟨rfl,rfl⟩
 | field s x fl=>obtain⟨_,_,h⟩:=ul h;obtain⟨_,_,e⟩:=au h;cases e;exact⟨rfl,rfl⟩
 | indexAddr s x i=>
  obtain⟨_,_,h⟩:=ul h;obtain⟨_,_,h⟩:=ul h;obtain⟨_,_,e⟩:=au h;cases e;exact⟨rfl,rfl⟩
 | index s x i=>
  obtain⟨_,_,h⟩:=ul h;obtain⟨_,_,h⟩:=ul h;obtain⟨_,_,e⟩:=au h;cases e;exact⟨rfl,rfl⟩
 | extract x i=>
  simp only[dH] at h;split at h
  ·obtain⟨_,_,e⟩:=au h;cases e;exact⟨rfl,rfl⟩
  ·cases h
 | makeFunc g first cap=>
  cases g with
  | func g=>obtain⟨_,_,h⟩:=ul h;obtain⟨_,_,e⟩:=au h;cases e;exact⟨rfl,rfl⟩
  | method nm=>
   obtain⟨_,_,h⟩:=ul h;obtain⟨_,_,h⟩:=ul h;obtain⟨_,_,h⟩:=ul h;obtain⟨_,_,e⟩:=au h;cases e;exact⟨rfl,rfl⟩
  | _=>simp[kh] at hr
 | load tt a=>obtain⟨_,_,h⟩:=ul h;obtain⟨_,_,e⟩:=au h;cases e;exact⟨rfl,rfl⟩
 | lookup tt x k ok=>
  obtain⟨_,_,h⟩:=ul h;obtain⟨_,_,h⟩:=ul h;obtain⟨_,_,e⟩:=au h;cases e;exact⟨rfl,rfl⟩
 | slice tt x lo hi mx=>
  obtain⟨_,_,h⟩:=ul h;obtain⟨_,_,h⟩:=ul h;obtain⟨_,_,h⟩:=ul h;obtain⟨_,_,h⟩:=ul h;obtain⟨_,_,e⟩:=au h;cases e;exact⟨rfl,rfl⟩
 | call c=>
  obtain⟨callee,aS,ats⟩:=c
  cases callee with
  | builtin b=>
   cases b with
   | len=>
    obtain⟨_,_,h⟩:=ul h;rename_i vs _
    cases hats:ats.toList with
    | nil=>rw[hats] at h;cases h
    | cons tt l=>
     rw[hats] at h
     cases vs with
     | nil=>cases h
     | cons x l'=>
      have h:(yI P S tt x).map (λ(n:Nat)=>((SV.a (.int .i64 (n:Int)),S,none):SV×List SO×Option Nat))=some (v,S',kill):=h;obtain⟨_,_,e⟩:=au h;cases e;exact⟨rfl,rfl⟩
   | _=>simp[kh] at hr
  | _=>simp[kh] at hr
 | _=>simp[kh] at hr
section
variable {θ:Nat->Loc} {ρ ρ0:jX} {P:Program}
mutual
def EZ:∀{r:SV} {v:AV},cN r=some v->VS θ ρ r v
 | .a w,v,h=>by rw[cN] at h;cases h;rw[VS]
 | .ag cs,v,h=>by rw[cN] at h;obtain⟨aS,h1,rfl⟩:=au h;rw[VS];exact⟨aS,rfl,tl h1⟩
 | .any,_,h=>by simp[cN] at h
 | .sl _ _ _,_,h=>by simp[cN] at h
 | .im _ _,_,h=>by simp[cN] at h
 | .ip _,_,h=>by simp[cN] at h
 | .ptr _ _,_,h=>by simp[cN] at h
 | .map _,_,h=>by simp[cN] at h
 | .buf _ _ _ _,_,h=>by simp[cN] at h
 | .sub _ _ _ _ _,_,h=>by simp[cN] at h
 | .e0 _,_,h=>by simp[cN] at h
 | .cm _,_,h=>by simp[cN] at h
 | .fn _ _ _,_,h=>by simp[cN] at h
 | .iface t w,v,h=>by rw[cN] at h;obtain⟨a,h1,rfl⟩:=au h;rw[VS];exact⟨a,rfl,EZ h1⟩
def tl:∀{rs:List SV} {vs:List AV},iP rs=some vs->cY θ ρ rs vs
 | [],vs,h=>by rw[iP] at h;cases h;rw[bf]
 | d::ds,vs,h=>by
  rw[iP] at h;obtain⟨a,ha,h⟩:=ul h;obtain⟨b,hb,rfl⟩:=au h;rw[aK];exact⟨a,b,rfl,EZ ha,tl hb⟩
end
end
section
variable {P:Program} {ro:Option Nat} {Q:Ex->eI->Prop} {f f':Fm} {n:Nat} {S S':List SO} {ds:List jT}
def aE.Ro{id:Nat}{ops:Array Oper}{l':List Oper}(hs:eG ops.toList n ops.toList=true)(h:oM P ops.toList ops.toList f S=(l',f',S'))(hk:aT P ro ops.toList l' ⟨f',n,S',ds⟩ (Q .normal)):aE P ro (.region id ops false) ⟨f,n,S,ds⟩ Q:=.region (.run hs h hk)
def aE.r0{id:Nat}{ops:Array Oper}(hs:eG ops.toList n ops.toList=true)(h:oM P ops.toList ops.toList f S=([],f',S'))(hk:Q .normal ⟨f',n,S',ds⟩):aE P ro (.region id ops false) ⟨f,n,S,ds⟩ Q:=.Ro hs h (.nil hk)
def aT.r0{all l:List Oper}{K:eI->Prop}(hs:eG all n l=true)(h:oM P all l f S=([],f',S'))(hk:K ⟨f',n,S',ds⟩):aT P ro all l ⟨f,n,S,ds⟩ K:=.run hs h (.nil hk)
theorem aT.k{all:List Oper}{o:Oper}{l:List Oper}{K:eI->Prop}{d:Nat}{c:Call}{g:FuncId}{vs ws:List SV}{r:SV}(hst:eG all n [o]=true)(hop:o.op=.call c)(hdst:o.dst=some d)(hw:cO all f o.guard=some true)(hdy:fG (.call c)=true)
 (hc:iE P f c=some (g,vs)) (hq:PC P g ws (·=r)) (hwk:bg S vs ws) (hfl:vD r=true\/bg [] vs ws) (hk:aT P ro all l ⟨(d,r)::f,n,S,ds⟩ K):aT P ro all (o::l) ⟨f,n,S,ds⟩ K:=by
 have hd:=(fz hst).1;rw[hdst] at hd;exact .call hop hdst (eX hst hw) hdy hd hc hq hwk (hfl.imp (λh r hr=>by rw[hr];exact h) id) (λr hr=>by rw[hr];exact hk)
end
def Tu:(∀(a:SV) (l:List SV) (i:Nat),(a::l)[i+1]?=l[i]?)/\(∀(a:SV) (l:List SV),(a::l)[0]?=some a)/\(∀(a:AV) (l:List AV) (i:Nat),(a::l)[i+1]?=l[i]?)/\(∀(a:AV) (l:List AV),(a::l)[0]?=some a)/\(∀(a:SO) (l:List SO) (i:Nat),(a::l)[i+1]?=l[i]?)/\(∀(a:SO) (l:List SO),(a::l)[0]?=some a)/\(∀(a:Oper) (l:List Oper) (i:Nat),(a::l)[i+1]?=l[i]?)/\(∀(a:Oper) (l:List Oper),(a::l)[0]?=some a)/\(∀(a:SV) (l:List SV) (i:Nat),(a::l).drop (i+1)=l.drop i)/\(∀l:List SV,l.drop 0=l)/\(∀i:Nat,([]:List SV).drop i=[])/\(∀(i:Nat) (a:SV) (l:List SV),(a::l).take (i+1)=a::l.take i)/\(∀l:List SV,l.take 0=[])/\(∀i:Nat,([]:List SV).take i=[])/\(∀(p:SV->Bool) (a:SV) (l:List SV),(a::l).all p=(p a&&l.all p))/\(∀p:SV->Bool,([]:List SV).all p=true)/\(∀l:List SV,[]++l=l)/\(∀(a:SV) (l m:List SV),(a::l)++m=a::(l++m))/\(∀(a b:SV) (l:List SV),(a::l).set 0 b=b::l)/\(∀(a b:SV) (l:List SV) (i:Nat),(a::l).set (i+1) b=a::l.set i b)/\(∀l:List SO,[]++l=l)/\(∀(a:SO) (l m:List SO),(a::l)++m=a::(l++m))/\(∀(a b:SO) (l:List SO),(a::l).set 0 b=b::l)/\(∀(a b:SO) (l:List SO) (i:Nat),(a::l).set (i+1) b=a::l.set i b)/\(∀(a:SV) (l:List SV),(a::l).length=l.length+1)/\(([]:List SV).length=0)/\(∀(a:SO) (l:List SO),(a::l).length=l.length+1)/\(([]:List SO).length=0)/\(∀(a:AV) (l:List AV),(a::l).length=l.length+1)/\(([]:List AV).length=0):=by
 (repeat' apply bc)<;>intros<;>first | rfl | (simp;done) | (unfold qc;rfl)
def Tv:(∀(f:AV->SV) (a:AV) (l:List AV),(a::l).map f=f a::l.map f)/\(∀f:AV->SV,([]:List AV).map f=[])/\(∀(f:SV->SV) (a:SV) (l:List SV),(a::l).map f=f a::l.map f)/\(∀f:SV->SV,([]:List SV).map f=[])/\(∀(f:SO->SO) (a:SO) (l:List SO),(a::l).map f=f a::l.map f)/\(∀f:SO->SO,([]:List SO).map f=[])/\(∀(f:(Nat×SV)->(Nat×SV)) (a:(Nat×SV)) (l:List (Nat×SV)),(a::l).map f=f a::l.map f)/\(∀f:(Nat×SV)->(Nat×SV),([]:List (Nat×SV)).map f=[])/\(∀l:List Oper,l.toArray.toList=l)/\(∀l:List Operand,l.toArray.toList=l)/\(∀l:List TypeId,l.toArray.toList=l)/\(∀l:List (Nat×Operand),l.toArray.toList=l)/\(∀l:List ResultVar,l.toArray.toList=l)/\(∀x y:SV,cond true x y=x)/\(∀x y:SV,cond false x y=y)/\(∀x y:Bool,cond true x y=x)/\(∀x y:Bool,cond false x y=y)/\(∀x y:Option (SV×List SO×Option Nat),cond true x y=x)/\(∀x y:Option (SV×List SO×Option Nat),cond false x y=y)/\(∀x y:Option SV,cond true x y=x)/\(∀x y:Option SV,cond false x y=y)/\(∀x y:Option (List SO),cond true x y=x)/\(∀x y:Option (List SO),cond false x y=y)/\(∀n:Nat,0+n=n)/\(∀n:Nat,n+0=n)/\(∀n:Nat,0*n=0)/\(∀b,(b||false)=b)/\(∀b,(false||b)=b)/\(∀b,(b||true)=true)/\(∀b,(true||b)=true):=by
 (repeat' apply bc)<;>intros<;>first | rfl | (simp;done) | (unfold qc;rfl)
def Tw:(∀b,(b&&true)=b)/\(∀b,(true&&b)=b)/\(∀b,(b&&false)=false)/\(∀b,(false&&b)=false)/\((!true)=false)/\((!false)=true)/\(∀p:Prop,(p/\True)=p)/\(∀p:Prop,(True/\p)=p)/\((¬False)=True)/\((¬True)=False)/\(∀a b:Nat,(a≠b)=¬(a=b))/\(∀b:Bool,(b=b)=True)/\(∀n:Nat,(n=n)=True)/\((false=true)=False)/\((true=false)=False)/\(∀{α:Type} (p:Prop) [Decidable p] (x:Option α),qc p x=if p then x else none):=by
 (repeat' apply bc)<;>intros<;>first | rfl | (simp;done) | (unfold qc;rfl)
def Tx:(∀(k:IntKind) (n:Int),lL mB (.int k n)=some (.int k n))/\(∀b,lL mB (.bool b)=some (.bool b))/\(lL mB (.pointer none)=some (.ptr none))/\(lL mB (.slice none 0 0)=some (.slice none 0 0 (some 0)))/\(lL mB (.map none)=some (.map none))/\(lL mB .nilFunc=some .eb)/\(∀s,lL mB (.string s)=some (.str (s.data.toList.map (·.toNat))))/\(∀l:List UInt8,l.toArray.toList=l)/\(∀(f:UInt8->Nat) (a:UInt8) (l:List UInt8),(a::l).map f=f a::l.map f)/\(∀f:UInt8->Nat,([]:List UInt8).map f=[])/\(∀h:Decidable False,@decide False h=false)/\(∀h:Decidable True,@decide True h=true):=by
 (repeat' apply bc)<;>intros<;>first | rfl | (simp;done)
def Tz:(∀l:List (Nat×SV),[]++l=l)/\(∀(a:Nat×SV) (l m:List (Nat×SV)),(a::l)++m=a::(l++m))/\(∀z:List AV,rep z 0=[])/\(∀(z:List AV) (n:Nat),rep z (n+1)=z++rep z n)/\(∀l:List AV,[]++l=l)/\(∀(a:AV) (l m:List AV),(a::l)++m=a::(l++m))/\(∀s,(AV.str s).cells=[.str s])/\(∀k n,(AV.int k n).cells=[.int k n])/\(∀b,(AV.bool b).cells=[.bool b])/\(∀o n e c,(AV.slice o n e c).cells=[.slice o n e c])/\(∀o,(AV.ptr o).cells=[.ptr o])/\(∀o,(AV.map o).cells=[.map o])/\(AV.eb.cells=[.eb])/\(AV.wJ.cells=[.wJ]):=by
 (repeat' apply bc)<;>intros<;>first | rfl | (simp;done)
def cj:type_of% Tu/\type_of% Tv/\type_of% Tw/\type_of% Tx/\type_of% Tz:=⟨Tu,Tv,Tw,Tx,Tz⟩
def fH(k:Nat):((k+1:Nat):Int)=(k:Int)+1:=rfl
def RY{k l B:Nat}(h1:k<l)(h2:l<=B)(hB:B<=9223372036854775807) : -9223372036854775808<=(k:Int)+1/\(k:Int)+1<=9223372036854775807:=⟨by omega,by omega⟩
def Bf.of{P:Program}{fn:Func}{Q:SV->Prop}{e:Ex}{f:Fm}{n:Nat}{S:List SO}{rs:List ResultVar}{vs:List SV}{r:SV}(he:j8 e=true)(hr:fn.results.toList=rs)(h:oK P f S rs=some vs)(hw:Wk S (ew vs) r)(hq:Q r):Bf P fn Q e ⟨f,n,S,[]⟩:=by
 subst hr;exact⟨he,rfl,vs,r,h,hw,hq⟩
abbrev ah(s:List Nat):SV:=.a (.str s)
abbrev ab(n:Int):SV:=.a (.int .i64 n)
abbrev ak(b:Bool):SV:=.a (.bool b)
def an{α:Type}(e:Nat)(l:List α)(enc:α->List SV):SV:=.sl l.length e (l.flatMap enc)
def aQ{α:Type}{e:Nat}{enc:α->List SV}(he:∀x,(enc x).length=e):∀{l:List α} {i:Nat} {x:α},l[i]?=some x->((l.flatMap enc).drop (i*e)).take e=enc x
 | [],i,x,h=>by simp at h
 | a::l,0,x,h=>by
  simp only[ax,rc] at h;subst h;rw[bv,bJ,cI,List.take_append_of_le_length (by rw[he];exact b7 _),ce (by rw[he];exact b7 _)]
 | a::l,i+1,x,h=>by
  simp only[ap] at h;have ih:=aQ he h;rw[cI,d3,Nat.add_comm,<-a4,show List.drop e (enc a++l.flatMap enc)=l.flatMap enc from by rw[List.drop_append_of_le_length (by rw[he];exact b7 _),bi (by rw[he];exact b7 _),dc]];exact ih
def fR{α:Type}(p:α->Bool)(l:List α):Int:=match l.findIdx? p with
 | some k=>(k:Int)
 | none => -1
def lR{α:Type}{p:α->Bool}{l:List α}{k:Nat}{x:α}(h1:l[k]?=some x)(h2:p x=true)(h3:∀(i:Nat) y,i<k->l[i]?=some y->p y=false):fR p l=(k:Int):=by
 have:l.findIdx? p=some k:=by
  rw[List.findIdx?_eq_some_iff_getElem];obtain⟨hlt,he⟩:=rt h1;refine⟨hlt,by rw[he];exact h2,λj hj=>?_⟩;rw[h3 j _ hj (li i5)];decide
 unfold fR;rw[this]
def ig{α:Type}{p:α->Bool}{l:List α}(h3:∀(i:Nat) y,i<l.length->l[i]?=some y->p y=false):fR p l = -1:=by
 have:l.findIdx? p=none:=by
  rw[List.findIdx?_eq_none_iff];intro x hx;obtain⟨i,hi⟩:=List.mem_iff_getElem?.1 hx;exact h3 i x (br hi) hi
 unfold fR;rw[this]
def aB{α:Type}(c:α->SV)(x:α):List SV:=[c x]
def PC.of{P:Program}{g:FuncId}{aS:List SV}{xs:List AV}{v:AV}(h:∀h,dU P (.func g) xs h (λa h'=>a=v/\h'=h))(hx:∀ρ avs,jQ ρ aS avs->avs=xs):PC P g aS (·=.a v):=
 λρ hh avs h1 h2=>by
  have:=hx ρ avs h2;subst this;exact(h hh).mono λa h' ⟨e1,e2⟩=>⟨.a v,ρ,rfl,by rw[e2];exact .refl _ _,λid ob hi=>.inl hi,by rw[GS];exact e1⟩
def sB{α:Type}(e:Nat)(l:List α)(enc:α->List SV):an e l enc=.sl l.length e (l.flatMap enc):=rfl
section
variable {P:Program} {K U:Type} [DecidableEq K] {kv:K->AV} {uv:U->SV} {S:List SO} {t kt et:TypeId} {z:AV} {u0:U} {l:List (K×U)} {o:Nat} {x:SV} {k:K}
def bE(kv:K->AV)(uv:U->SV)(l:List (K×U)):SO:=.map (l.map λe=>kv e.1) (l.map λe=>uv e.2) none
abbrev lS(kv:K->AV)(uv:U->SV)(l:List (K×U)):SV:=.im (l.map λe=>kv e.1) (l.map λe=>uv e.2)
def q7(hk:Keys P kt kv)(k:K):∀(l:List (K×U)) (j:Nat),ti P kt (kv k) (l.map λe=>kv e.1) j=some (vk k l j)
 | [],_=>rfl
 | e::l,j=>by
  rw[am,ti,hk.eq];by_cases h:k=e.1
  ·simp only[h,decide_true,vk,if_true]
  ·simp only[h,decide_false,vk,if_false];exact q7 hk k l (j+1)
def Fv(hm:dn P t=some (kt,et))(hk:Keys P kt kv)(hz:de P et=some z)(hu:uc z=uv u0)(hS:Ay S x=some (l.map (λe=>kv e.1),l.map λe=>uv e.2)){y:SV}(hf:cN y=some (kv k))(ok:Bool):
 jd P S t x y ok=some (_root_.cond ok (.cm [uv (getM u0 k l),ak (dx k l)]) (uv (getM u0 k l))):=by
 unfold jd;rw[hm,m8];simp only;rw[hf,m8,hk.ck,ar,hS,m8];simp only;rw[q7 hk,m8]
 cases hp:vk k l 0 with
 | none=>
  have hn:=rp hp;simp only[hz,m7,yq hn,hn,hu]
 | some i=>
  obtain⟨_,u,h2,h3,_,h5⟩:=oI hp;rw[c0] at h2;simp only[a6,h2,m7,h3,h5]
def NL(hm:dn P t=some (kt,et))(hk:Keys P kt kv)(hz:de P et=some z)(hu:uc z=uv u0)(hS:S[o]?=some (bE kv uv l))(hf:cN x=some (kv k))(ok:Bool):
 jd P S t (.map o) x ok=some (_root_.cond ok (.cm [uv (getM u0 k l),ak (dx k l)]) (uv (getM u0 k l))):=
 Fv hm hk hz hu (by simp only[Ay,hS,bE]) hf ok
def Ri(hm:dn P t=some (kt,et))(hk:Keys P kt kv)(hz:de P et=some z)(hu:uc z=uv u0)(hf:cN x=some (kv k))(ok:Bool):
 jd P S t (lS kv uv l) x ok=some (_root_.cond ok (.cm [uv (getM u0 k l),ak (dx k l)]) (uv (getM u0 k l))):=
 Fv hm hk hz hu (by simp only[lS,Ay]) hf ok
def Ig(hm:dn P t=some (kt,et))(hk:Keys P kt kv)(hS:S[o]?=some (bE kv uv l))(hf:cN x=some (kv k))(u:U):
 iq P S t (.map o) x (uv u)=some (S.set o (bE kv uv (cq k u l))):=by
 unfold iq;rw[hm,m8];simp only;rw[hf,m8,hk.ck,ar,hS];simp only[bE];rw[q7 hk,m8]
 cases hp:vk k l 0 with
 | none=>
  have hn:=rp hp;simp only[oJ hn,bk,am,bo,Option.map_none]
 | some i=>
  obtain⟨_,u',h2,_,h4,_⟩:=oI hp;rw[c0] at h2;have h4:=h4 u;rw[c0] at h4;simp only[a6,h2,m7,m8,hk.st,ar,h4,List.map_set]
omit [DecidableEq K] in
def mh{n:Nat}(h:∀u,names n (uv u)=false):cE n (bE kv uv l)=bE kv uv l:=by
 simp only[cE,bE,List.map_map]
 congr 1
 refine List.map_congr_left λe _=>?_;simp only[Function.comp,aY,h,az]
omit [DecidableEq K] in
def po(h:∀u,mg (uv u)=true):∀l:List (K×U),bW (l.map λe=>uv e.2)=true
 | []=>rfl
 | e::l=>by rw[am,bW,h,b8];exact po h l
omit [DecidableEq K] in
def l9(h:∀u,mg (uv u)=true)(hS:S[o]?=some (bE kv uv l)):Wk S (.map o) (lS kv uv l):=Wk.map hS (bg.refl (po h l))
end
def ND{P:Program}{kt:TypeId}(h:P.underlying kt=some .string):Keys P kt AV.str where
 eq a b:=by unfold lk;rw[h];simp only[j9]
 ck a:=by unfold wH EH;rw[h]
 st a:=by unfold stays Dd;simp only[mD,Bool.true_and];exact Bm _ _
def qt{n:Nat}{l:List (List Nat×Bool)}:cE n (bE AV.str ak l)=bE AV.str ak l:=mh λ_=>lY _
def R4{n:Nat}{l:List (List Nat×Int)}:cE n (bE AV.str ab l)=bE AV.str ab l:=mh λ_=>lY _
inductive Kd where
 | b
 | i (k:IntKind)
 | s
def Mi:Kd->AV->Bool
 | .b,.bool _=>true
 | .i k,.int k' _=>AG k k'
 | .s,.str _=>true
 | _,_=>false
def rG:List Kd->List AV->Bool
 | [],[]=>true
 | k::ks,x::xs=>Mi k x&&rG ks xs
 | _,_=>false
def yl(P:Program)(rec:TypeId->Option (List Kd)):List Field->Nat->Option (List Kd)
 | [],_=>some []
 | f::fs,off=>cond (!(f.name== "_")&&beq f.offset off) ((rec f.type).bind λks=>(yl P rec fs (off+ks.length)).map λr=>ks++r) none
def flatK(P:Program):Nat->TypeId->Option (List Kd)
 | 0,_=>none
 | d+1,t=>match P.underlying t,G5 P t with
  | some .bool,some (1,false)=>some [.b]
  | some (.int k),some (1,false)=>some [.i k]
  | some .string,some (1,false)=>some [.s]
  | some (.struct fs),some (n,true)=>cond (P.stoodInHeld t) none ((yl P (flatK P d) fs.toList 0).bind λks=>cond (beq ks.length n) (some ks) none)
  | _,_=>none
def yB:∀{ks:List Kd} {xs:List AV},rG ks xs=true->xs.length=ks.length
 | [],[],_=>rfl
 | [],_::_,h=>by cases h
 | _::_,[],h=>by cases h
 | k::ks,x::xs,h=>by
  rw[rG,ac] at h;simp[yB h.2]
def sm:∀{k1 k2:List Kd} {xs:List AV},rG (k1++k2) xs=true->rG k1 (xs.take k1.length)=true/\rG k2 (xs.drop k1.length)=true
 | [],k2,xs,h=>⟨rfl,h⟩
 | k::k1,k2,[],h=>by cases h
 | k::k1,k2,x::xs,h=>by
  have h:(Mi k x&&rG (k1++k2) xs)=true:=h;rw[ac] at h;obtain⟨h1,h2⟩:=sm h.2;exact⟨by show(Mi k x&&rG k1 (xs.take k1.length))=true;rw[h.1,h1];rfl,h2⟩
def xM(e:AV->AV->Bool):∀(n:Nat) {xs ys:List AV},xs.length=ys.length->fN e xs ys=(fN e (xs.take n) (ys.take n)&&fN e (xs.drop n) (ys.drop n))
 | 0,xs,ys,_=>by rw[List.take_zero,List.take_zero];rfl
 | n+1,[],[],_=>rfl
 | n+1,x::xs,y::ys,h=>by
  have h:xs.length=ys.length:=by simpa using h
  show(e x y&&fN e xs ys)=((e x y&&fN e (xs.take n) (ys.take n))&&fN e (xs.drop n) (ys.drop n));rw[xM e n h,Bool.and_assoc]
 | n+1,[],y::ys,h=>by simp at h
 | n+1,x::xs,[],h=>by simp at h
section
variable {P:Program}
def EqAt(P:Program)(d:Nat)(t:TypeId)(ks:List Kd):Prop:=
 (∃k,ks=[k]/\G5 P t=some (1,false)/\∀x y,Mi k x=true->Mi k y=true->lk P d t x y=some (eC x y)/\EH P d t x=true)\/
 (G5 P t=some (ks.length,true)/\∀xs ys,rG ks xs=true->rG ks ys=true->lk P d t (.agg xs) (.agg ys)=some (fN eC xs ys)/\EH P d t (.agg xs)=true)
def Bq{d:Nat}(hrec:∀t ks,flatK P d t=some ks->EqAt P d t ks):∀{fs:List Field} {off:Nat} {ks:List Kd},yl P (flatK P d) fs off=some ks->∀xs ys,xs.length=ys.length->off+ks.length=xs.length->rG ks (xs.drop off)=true->rG ks (ys.drop off)=true->
 eqFields P (lk P d) fs xs ys=some (fN eC (xs.drop off) (ys.drop off))/\oh P (EH P d) fs xs=true
 | [],off,ks,h,xs,ys,hl,hle,h1,h2=>by
  simp only[yl,rc] at h;subst h;have e1:xs.drop off=[]:=List.drop_of_length_le (by simp at hle;omega);have e2:ys.drop off=[]:=List.drop_of_length_le (by simp at hle;omega);rw[e1,e2];exact⟨rfl,rfl⟩
 | f::fs,off,ks,h,xs,ys,hl,hle,h1,h2=>by
  simp only[yl] at h;obtain⟨hb,h⟩:=aG h;rw[Bool.and_eq_true] at hb;have hoff:=cP hb.2
  have hnm:(f.name== "_")=false:=by have:=hb.1;cases hq:(f.name== "_");rfl;rw[hq] at this;cases this
  obtain⟨k1,hk1,h⟩:=ul h;obtain⟨r,hr,rfl⟩:=au h;obtain⟨a1,a2⟩:=sm h1;obtain⟨b1,b2⟩:=sm h2;rw[List.drop_drop] at a2 b2;rw[md] at hle;obtain⟨ih1,ih2⟩:=Bq hrec hr xs ys hl i5 a2 b2;have hs:=xM eC k1.length (xs:=xs.drop off) (ys:=ys.drop off) (by rw[List.length_drop,List.length_drop,hl]);rw[List.drop_drop,List.drop_drop] at hs
  have hpart:∃p q,eV P f.type xs f.offset=some p/\eV P f.type ys f.offset=some q/\lk P d f.type p q=some (fN eC ((xs.drop off).take k1.length) ((ys.drop off).take k1.length))/\EH P d f.type p=true:=by
   rw[hoff]
   rcases hrec _ _ hk1 with⟨k,rfl,hz,hq⟩ | ⟨hz,hq⟩
   ·obtain⟨z1,z2⟩:=uu hz;simp only[jp,i7,Nat.zero_add] at hle a1 b1 ⊢;obtain⟨x,hx⟩:∃x,xs[off]?=some x:=⟨xs[off],li i5⟩;obtain⟨y,hy⟩:∃y,ys[off]?=some y:=⟨ys[off],li i5⟩
    have ex:(xs.drop off).take 1=[x]:=by rw[List.take_one,List.head?_drop,hx];rfl
    have ey:(ys.drop off).take 1=[y]:=by rw[List.take_one,List.head?_drop,hy];rfl
    rw[ex] at a1;rw[ey] at b1;simp only[rG,Bool.and_true] at a1 b1;obtain⟨q1,q2⟩:=hq x y a1 b1;refine⟨x,y,?_,?_,?_,q2⟩
    ·unfold eV;rw[z1];exact hx
    ·unfold eV;rw[z1];exact hy
    ·rw[ex,ey,q1];simp only[fN,Bool.and_true]
   ·obtain⟨z1,z2⟩:=uu hz;obtain⟨q1,q2⟩:=hq _ _ a1 b1;refine⟨_,_,?_,?_,q1,q2⟩
    ·unfold eV;rw[z1];simp only;rw[z2,m8,eY (by simp only;omega),ar]
    ·unfold eV;rw[z1];simp only;rw[z2,m8,eY (by simp only;omega),ar]
  obtain⟨p,q,g1,g2,g3,g4⟩:=hpart;refine⟨?_,?_⟩
  ·unfold eqFields;rw[hnm,az,g1,g2];simp only;rw[g3,hs];cases fN eC ((xs.drop off).take k1.length) ((ys.drop off).take k1.length)
   ·rfl
   ·simp only[Bool.true_and];exact ih1
  ·unfold oh;rw[hnm,g1];simp only;rw[g4,ih2];rfl
def ym:∀(d:Nat) (t:TypeId) (ks:List Kd),flatK P d t=some ks->EqAt P d t ks
 | 0,t,ks,h=>by simp[flatK] at h
 | d+1,t,ks,h=>by
  unfold flatK at h;split at h
  ·rename_i hu hz;cases h;refine .inl ⟨.b,rfl,hz,λx y hx hy=>?_⟩
   cases x<;>first | (simp[Mi] at hx;done) | skip
   cases y<;>first | (simp[Mi] at hy;done) | skip
   rename_i a b;constructor
   ·unfold lk;rw[hu];simp only[eC];cases a<;>cases b<;>rfl
   ·unfold EH;rw[hu]
  ·rename_i k hu hz;cases h;refine .inl ⟨.i k,rfl,hz,λx y hx hy=>?_⟩
   cases x<;>first | (simp[Mi] at hx;done) | skip
   cases y<;>first | (simp[Mi] at hy;done) | skip
   rename_i k1 a k2 b;simp only[Mi] at hx hy
   have e1:k=k1:=by cases k<;>cases k1<;>first | rfl | cases hx
   have e2:k=k2:=by cases k<;>cases k2<;>first | rfl | cases hy
   subst e1;subst e2;constructor
   ·unfold lk;rw[hu];simp only[eC,hx,ar,Bool.true_and]
   ·unfold EH;rw[hu]
  ·rename_i hu hz;cases h;refine .inl ⟨.s,rfl,hz,λx y hx hy=>?_⟩
   cases x<;>first | (simp[Mi] at hx;done) | skip
   cases y<;>first | (simp[Mi] at hy;done) | skip
   constructor
   ·unfold lk;rw[hu];rfl
   ·unfold EH;rw[hu]
  ·rename_i fs n hu hz;cases hst:P.stoodInHeld t
   ·rw[hst,az] at h;obtain⟨ks',hk,h⟩:=ul h;obtain⟨hn,h⟩:=aG h;cases h;have hn:=cP hn;subst hn;refine .inr ⟨hz,λxs ys hx hy=>?_⟩;have l1:=yB hx;have l2:=yB hy;obtain⟨r1,r2⟩:=Bq (ym d) hk xs ys i5 i5 hx hy;constructor
    ·unfold lk;rw[hu];simp only;rw[hst,az];exact r1
    ·unfold EH;rw[hu];exact r2
   ·rw[hst] at h;cases h
  ·cases h
def uY{K:Type}[DecidableEq K]{t:TypeId}{ks:List Kd}{cells:K->List AV}(hf:flatK P 4 t=some ks)(ha:(G5 P t).map (·.2)=some true)(hk:∀a,rG ks (cells a)=true)(he:∀a b,fN eC (cells a) (cells b)=decide (a=b))(hfl:∀a,(cells a).all mD=true):Keys P t λa=>.agg (cells a):=by
 have key:∀a b,lk P 4 t (.agg (cells a)) (.agg (cells b))=some (decide (a=b))/\EH P 4 t (.agg (cells a))=true:=by
  intro a b
  rcases ym 4 t ks hf with⟨k,rfl,hz,_⟩ | ⟨_,hq⟩
  ·rw[hz] at ha;cases ha
  ·rw[<-he a b];exact hq _ _ (hk a) (hk b)
 refine⟨λa b=>(key a b).1,λa=>(key a a).2,λa=>?_⟩;unfold stays Dd;show((cells a).all mD&&gM 3 (.agg (cells a)) (.agg (cells a)))=true;rw[hfl a,b8];refine K3 _ _ ?_
 have:∀l:List AV,l.all mD=true->fN (gM 2) l l=true:=by
  intro l
  induction l with
  | nil=>intro _;rfl
  | cons x l ih=>
   intro h;rw[ci,ac] at h;show(gM 2 x x&&fN (gM 2) l l)=true;rw[ih h.2,ct]
   cases x<;>first | (cases h.1;done) | exact HC _ _ | exact K4 _ _ _ | exact Bm _ _
 exact this _ (hfl a)
def sN{t:TypeId}{ks:List Kd}{xs ys:List AV}{b:Bool}(hg:P.eqGuardType P.depth t=false)(hf:flatK P 8 t=some ks)(ha:(G5 P t).map (·.2)=some true)(hx:rG ks xs=true)(hy:rG ks ys=true)(he:fN eC xs ys=b):da P .eql t (.agg xs) (.agg ys)=some (.bool b):=by
 have:lk P 8 t (.agg xs) (.agg ys)=some b:=by
  rcases ym 8 t ks hf with⟨k,rfl,hz,_⟩ | ⟨_,hq⟩
  ·rw[hz] at ha;cases ha
  ·rw[<-he];exact(hq _ _ hx hy).1
 show cond (P.eqGuardType P.depth t) none ((lk P 8 t (.agg xs) (.agg ys)).map AV.bool)=_;rw[hg,az,this];rfl
end
mutual
def fh(r:Nat->Nat):SV->SV
 | .any=>.any
 | .a v=>.a v
 | .sl n e cs=>.sl n e cs
 | .im ks vs=>.im ks vs
 | .ip cs=>.ip cs
 | .ptr o off=>.ptr (r o) off
 | .map o=>.map (r o)
 | .buf o n e c=>.buf (r o) n e c
 | .sub o off n e c=>.sub (r o) off n e c
 | .e0 e=>.e0 e
 | .ag cs=>.ag (mn r cs)
 | .cm cs=>.cm (mn r cs)
 | .fn g a b=>.fn g (mn r a) (mn r b)
 | .iface t v=>.iface t (fh r v)
def mn(r:Nat->Nat):List SV->List SV
 | []=>[]
 | d::ds=>fh r d::mn r ds
end
def QG(r:Nat->Nat):Fm->Fm
 | []=>[]
 | (d,v)::f=>(d,fh r v)::QG r f
def pH(r:Nat->Nat):SO->SO
 | .cells cs=>.cells (mn r cs)
 | .map ks vs b=>.map ks (mn r vs) b
 | .iter m bs c pos=>.iter (fh r m) bs c pos
 | .oT ks vs bs c pos=>.oT ks vs bs c pos
 | .gone=>.gone
 | .loop c ls p f=>.loop c ls p (QG r f)
 | .mC N=>.mC N
def jP(os:List Nat)(B i:Nat):Nat:=match os[i]? with
 | some o=>o
 | none=>B+(i-os.length)
mutual
def dz(B:Nat):SV->Bool
 | .ptr o _=>decide (o<B)
 | .map o=>decide (o<B)
 | .buf o _ _ _=>decide (o<B)
 | .sub o _ _ _ _=>decide (o<B)
 | .ag cs=>hY B cs
 | .cm cs=>hY B cs
 | .fn _ a b=>hY B a&&hY B b
 | .iface _ v=>dz B v
 | _=>true
def hY(B:Nat):List SV->Bool
 | []=>true
 | d::ds=>dz B d&&hY B ds
end
def Ey(B:Nat):Fm->Bool
 | []=>true
 | (_,v)::f=>dz B v&&Ey B f
def my(B:Nat):SO->Bool
 | .cells cs=>hY B cs
 | .map _ vs _=>hY B vs
 | .iter m _ _ _=>dz B m
 | .oT _ _ _ _ _=>true
 | .gone=>true
 | .loop _ _ _ f=>Ey B f
 | .mC _=>true
def uI(B:Nat):List SO->Bool
 | []=>true
 | s::l=>my B s&&uI B l
def mH:List Nat->SV->SV
 | [],v=>v
 | k::ks,v=>mH ks (aY k v)
def nR:List Nat->Fm->Fm
 | [],f=>f
 | k::ks,f=>nR ks (eK k f)
def fU:List Nat->List SO->List SO
 | [],S=>S
 | k::ks,S=>fU ks (ek k S)
def gA:List SO->List Nat->List SO->List SO
 | S,[],ss=>S++ss
 | S,o::os,s::ss=>gA (S.set o s) os ss
 | S,_::_,[]=>S
section
variable {θ θ':Nat->Loc} {ρ ρ0 ρ':jX} {P:Program} {h0:En} {h h1:H} {S S' S0:List SO}
mutual
def VS.rn(r:Nat->Nat):∀{v:SV} {x:AV},VS θ ρ (fh r v) x↔VS (λp=>θ (r p)) ρ v x
 | .any,_=>by rw[fh,VS,VS]
 | .a v,x=>by rw[fh,VS,VS]
 | .sl n e cs,x=>by rw[fh,VS,VS]
 | .im ks vs,x=>by rw[fh,VS,VS]
 | .ip cs,x=>by rw[fh,VS,VS]
 | .ptr p _,_=>by rw[fh,VS,VS]
 | .map p,_=>by rw[fh,VS,VS]
 | .buf p _ _ _,_=>by rw[fh,VS,VS]
 | .sub p _ _ _ _,_=>by rw[fh,VS,VS]
 | .e0 _,_=>by rw[fh,VS,VS]
 | .ag cs,x=>by rw[fh,VS,VS];exact exists_congr λ_=>and_congr_right λ_=>cY.rn r
 | .cm cs,x=>by rw[fh,VS,VS];exact exists_congr λ_=>and_congr_right λ_=>cY.rn r
 | .fn g f c,x=>by rw[fh,VS,VS];exact exists_congr λ_=>exists_congr λ_=>and_congr_right λ_=>and_congr (cY.rn r) (cY.rn r)
 | .iface t v,x=>by rw[fh,VS,VS];exact exists_congr λ_=>and_congr_right λ_=>VS.rn r
def cY.rn(r:Nat->Nat):∀{ds:List SV} {aS:List AV},cY θ ρ (mn r ds) aS↔cY (λp=>θ (r p)) ρ ds aS
 | [],aS=>by rw[mn,bf,bf]
 | d::ds,aS=>by rw[mn,aK,aK];exact exists_congr λ_=>exists_congr λ_=>and_congr_right λ_=>and_congr (VS.rn r) (cY.rn r)
end
def xk(r:Nat->Nat):∀(f:Fm) (i:Nat),aP (QG r f) i=fh r (aP f i)
 | [],i=>by rw[show aP [] i=.any from rfl,fh];rfl
 | (d,v)::f,i=>by
  show(if d=i then fh r v else aP (QG r f) i)=fh r (if d=i then v else aP f i);rw[xk r f i];by_cases h:d=i
  ·rw[ut h,ut h]
  ·rw[v6 h,v6 h]
def Ez{B:Nat}:∀{f:Fm} {i:Nat},Ey B f=true->dz B (aP f i)=true
 | [],i,_=>by rw[show aP ([]:Fm) i=.any from rfl];simp[dz]
 | (d,v)::f,i,h=>by
  rw[Ey,ac] at h;show dz B (if d=i then v else aP f i)=true;by_cases e:d=i
  ·rw[ut e];exact h.1
  ·rw[v6 e];exact Ez h.2
def mY.rn(r:Nat->Nat){L:Loc}{so:SO}:mY θ ρ h L (pH r so)↔mY (λp=>θ (r p)) ρ h L so:=by
 cases so with
 | cells cs=>exact exists_congr λ_=>and_congr_right λ_=>and_congr_left λ_=>cY.rn r
 | map ks vs b=>exact exists_congr λ_=>exists_congr λ_=>and_congr_right λ_=>and_congr_right λ_=>cY.rn r
 | iter m bs c pos=>exact exists_congr λ_=>and_congr_left λ_=>VS.rn r
 | oT ks vs bs c pos=>exact Iff.rfl
 | gone=>exact Iff.rfl
 | loop c ls p f=>exact and_congr_right λ_=>and_congr_right λ_=>forall_congr' λi=>forall_congr' λ_=>by rw[xk];exact VS.rn r
 | mC N=>exact Iff.rfl
def eW{r:Nat->Nat}{so:SO}:pH r so≠.gone↔so≠.gone:=by
 cases so<;>simp[pH]
mutual
def VS.lg{B:Nat}(hθ:∀q,q<B->(θ' q).id=(θ q).id):∀{v:SV} {x:AV},dz B v=true->VS θ ρ v x->VS θ' ρ v x
 | .any,_,_,_=>by rw[VS];trivial
 | .a v,x,_,h=>by rw[VS] at h ⊢;exact h
 | .sl n e cs,x,_,h=>by rw[VS] at h ⊢;exact h
 | .im ks vs,x,_,h=>by rw[VS] at h ⊢;exact h
 | .ip cs,x,_,h=>by rw[VS] at h ⊢;exact h
 | .ptr p _,_,hn,h=>by rw[VS] at h ⊢;rw[dz] at hn;rw[hθ p (ww hn)];exact h
 | .map p,_,hn,h=>by rw[VS] at h ⊢;rw[dz] at hn;rw[hθ p (ww hn)];exact h
 | .buf p _ _ _,_,hn,h=>by rw[VS] at h ⊢;rw[dz] at hn;rw[hθ p (ww hn)];exact h
 | .sub p _ _ _ _,_,hn,h=>by rw[VS] at h ⊢;rw[dz] at hn;rw[hθ p (ww hn)];exact h
 | .e0 e,x,_,h=>by rw[VS] at h ⊢;exact h
 | .ag cs,x,hn,h=>by rw[VS] at h ⊢;rw[dz] at hn;obtain⟨aS,h1,h2⟩:=h;exact⟨aS,h1,cY.lg hθ hn h2⟩
 | .cm cs,x,hn,h=>by rw[VS] at h ⊢;rw[dz] at hn;obtain⟨aS,h1,h2⟩:=h;exact⟨aS,h1,cY.lg hθ hn h2⟩
 | .fn g f c,x,hn,h=>by
  rw[VS] at h ⊢;rw[dz,ac] at hn;obtain⟨xs,ys,h1,h2,h3⟩:=h;exact⟨xs,ys,h1,cY.lg hθ hn.1 h2,cY.lg hθ hn.2 h3⟩
 | .iface t v,x,hn,h=>by rw[VS] at h ⊢;rw[dz] at hn;obtain⟨y,h1,h2⟩:=h;exact⟨y,h1,VS.lg hθ hn h2⟩
def cY.lg{B:Nat}(hθ:∀q,q<B->(θ' q).id=(θ q).id):∀{ds:List SV} {aS:List AV},hY B ds=true->cY θ ρ ds aS->cY θ' ρ ds aS
 | [],aS,_,h=>by rw[bf] at h ⊢;exact h
 | d::ds,aS,hn,h=>by
  rw[aK] at h ⊢;rw[hY,ac] at hn;obtain⟨a,r,h1,h2,h3⟩:=h;exact⟨a,r,h1,VS.lg hθ hn.1 h2,cY.lg hθ hn.2 h3⟩
end
def mY.lg{B:Nat}(hθ:∀q,q<B->(θ' q).id=(θ q).id){L:Loc}{so:SO}(hn:my B so=true)(hx:mY θ ρ h L so):mY θ' ρ h L so:=by
 cases so with
 | cells cs=>obtain⟨aS,h1,h2,h3⟩:=hx;exact⟨aS,h1,h2.lg hθ hn,h3⟩
 | map ks vs b=>obtain⟨l,c,h1,h2,h3⟩:=hx;exact⟨l,c,h1,h2,h3.lg hθ hn⟩
 | iter m bs c pos=>obtain⟨jO,h1,h2⟩:=hx;exact⟨jO,h1.lg hθ hn,h2⟩
 | oT ks vs bs c pos=>exact hx
 | gone=>trivial
 | loop c ls p f=>
  obtain⟨h1,h2,h3⟩:=hx;exact⟨h1,h2,λi hi=>(h3 i hi).lg hθ (Ez hn)⟩
 | mC N=>exact hx
def EA{B:Nat}:∀{S:List SO} {i:Nat} {so:SO},uI B S=true->S[i]?=some so->my B so=true
 | [],i,so,_,h=>by simp at h
 | s::l,0,so,hb,h=>by rw[uI,ac] at hb;simp only[ax,rc] at h;subst h;exact hb.1
 | s::l,i+1,so,hb,h=>by rw[uI,ac] at hb;exact EA hb.2 (by simpa using h)
def G6(θ:Nat->Loc):List Nat->(Nat->Loc)->Nat->Loc
 | [],_=>θ
 | k::ks,θ'=>G6 (gC θ k (θ' k)) ks θ'
def xB:∀{ks:List Nat} {θ:Nat->Loc} {p:Nat},(p∈ks\/θ p=θ' p)->G6 θ ks θ' p=θ' p
 | [],θ,p,h=>by rcases h with h | h;(· simp at h);(· exact h)
 | k::ks,θ,p,h=>by
  rw[G6];by_cases e:p=k
  ·subst e;exact xB (.inr (cy _ _ _))
  ·rcases h with h | h
   ·rcases t7 h with h | h
    ·exact un h e
    ·exact xB (.inl h)
   ·exact xB (.inr (by rw[bQ _ _ e];exact h))
def G7:∀{ks:List Nat} {θ:Nat->Loc} {p:Nat},p∉ks->G6 θ ks θ' p=θ p
 | [],θ,p,h=>rfl
 | k::ks,θ,p,h=>by
  rw[G6,G7 (λe=>h (b0 _ e)),bQ _ _ (λe=>h (by rw[e];exact b9))]
def Fo:∀{ks:List Nat} {θ:Nat->Loc} {v:SV} {x:AV},VS θ ρ v x->VS (G6 θ ks θ') ρ (mH ks v) x
 | [],θ,v,x,h=>h
 | k::ks,θ,v,x,h=>by
  rw[G6,mH];exact Fo (iR (θ':=gC θ k (θ' k)) (λp hp=>bQ _ _ hp) h)
def yg:∀(ks:List Nat) (f:Fm) (i:Nat),aP (nR ks f) i=mH ks (aP f i)
 | [],f,i=>rfl
 | k::ks,f,i=>by rw[nR,mH,yg ks,ib]
def jj:∀(ks:List Nat) (S:List SO),(fU ks S).length=S.length
 | [],S=>rfl
 | k::ks,S=>by rw[fU,jj ks];unfold ek;rw[a0]
def Lk{f g:SV->SV}(so:SO):sq f (sq g so)=sq (λv=>f (g v)) so:=by cases so<;>simp[sq]
def yG:∀(ks:List Nat) (S:List SO) (p:Nat),(fU ks S)[p]?=(S[p]?).map (sq (mH ks))
 | [],S,p=>by
  show S[p]?=_
  cases S[p]? with
  | none=>rfl
  | some s=>rw[m7];exact rg some (tw s).symm
 | k::ks,S,p=>by
  rw[fU,yG ks,rb]
  cases S[p]? with
  | none=>rfl
  | some s=>simp only[m7,Lk];rfl
def B2:∀{os:List Nat} {S ss:List SO} (p:Nat),os.Nodup->(∀o∈os,o<S.length)->os.length<=ss.length->
 (∀i:Nat,os[i]?=some p->(gA S os ss)[p]?=ss[i]?)/\(p∉os->p<S.length->(gA S os ss)[p]?=S[p]?)/\(S.length<=p->(gA S os ss)[p]?=ss[os.length+(p-S.length)]?)
 | [],S,ss,p,_,_,_=>by
  refine⟨λi h=>by simp at h,λ_ hl=>?_,λhl=>?_⟩
  ·rw[gA,List.getElem?_append_left hl]
  ·rw[gA,b6 hl,i7,ba]
 | o::os,S,[],p,_,_,hl=>by simp at hl
 | o::os,S,s::ss,p,hn,ho,hl=>by
  rw[List.nodup_cons] at hn;have ih:=B2 (os:=os) (S:=S.set o s) (ss:=ss) p hn.2 (λx hx=>by rw[c6];exact ho x (b0 _ hx)) (by simpa using hl);have hol:=ho o b9;rw[c6] at ih;refine⟨λi h=>?_,λh1 h2=>?_,λh1=>?_⟩
  ·cases i with
   | zero=>
    simp only[ax,rc] at h;subst h;rw[gA,ih.2.1 hn.1 hol,ay hol];rfl
   | succ i=>
    simp only[ap] at h;rw[gA,ih.1 i h];rfl
  ·rw[gA,ih.2.1 (λe=>h1 (b0 _ e)) h2,a3 (λe=>h1 (by rw[e];exact b9))]
  ·rw[gA,ih.2.2 h1,jp,show os.length+1+(p-S.length)=os.length+(p-S.length)+1 by omega,ap]
def SC(P:Program)(g:FuncId)(args:List SV)(S0:List SO)(mv:List Nat)(Q:SV->List SO->Prop):Prop:=
 ∀(E:En) θ ρ h avs,E.h={ h with low:=h.next }->RS θ ρ ρ E E.h S0->cY θ ρ args avs->
  dU P (.func g) avs h (λv h'=>∃r S' θ' ρ' h1,Q r S'/\h'={ h1 with low:=gQ h.low h1.low }/\RS θ' ρ ρ' E h1 S'/\VS θ' ρ' r v/\S0.length<=S'.length/\∀i,i<S0.length->i∉mv->(θ' i).id=(θ i).id)
end
end
end Go.Ev
