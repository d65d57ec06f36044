/- Lemmas of this claim, each with its conditions. -/
import Derived.Test.YtibnohghfgmahaaGreatA2
import Derived.Test.YtibnohghfgmahaaGreatProg
set_option linter.all false
open Option (bind_eq_some_iff)
open Nat (beq ble blt)
open Int (ofNat)
open List (mem_map)
open Option renaming bind_some -> ac, map_some -> aj
open Nat renaming beq_refl -> ad, lt_of_lt_of_le -> ay, le_of_ble_eq_true -> a9, mul_le_mul_right -> bc, le_trans -> be, zero_le -> bh, min_eq_left -> bi, lt_succ_self -> b0, zero_mul -> b6, le_refl -> b9, zero_add -> cb, lt_irrefl -> cf, le_succ_of_le -> ct, sub_zero -> dd, succ_mul -> d4
open Bool renaming and_self -> ap, and_eq_true -> a3, not_false -> a4, true_or -> cp, or_false -> d2, true_and -> d3
open And renaming intro -> ax
open List renaming map_cons -> a0, eraseIdx_cons_succ -> a5, getElem?_map -> a6, length_map -> a7, getElem?_set_self -> a8, getElem?_eq_none -> bb, getElem?_set_ne -> bd, getElem?_cons_succ -> bk, getElem?_cons_zero -> bt, map_append -> bv, map_nil -> bw, drop_drop -> b7, drop_zero -> b8, drop_take -> cc, take_take -> cd, take_zero -> ce, take_of_length_le -> ch, length_drop -> ci, length_take -> cl, length_replicate -> cn, getElem?_append -> co, all_cons -> cv, eraseIdx_nil -> c0, flatMap_cons -> dc, nil_append -> dv, mapM_cons -> d0, replicate -> d1
open Go.Proofs.Tryz renaming prog -> ba
namespace Go.Ev
noncomputable section
def qf:AV->SV
 | .agg cs=>.ag (cs.map .a)
 | v=>.a v
def bu:SV->Option (List SV)
 | .any=>none
 | .ag cs=>some cs
 | .a (.agg cs)=>some (cs.map .a)
 | v=>some [v]
def cH:SV->Bool
 | .any=>false
 | .a v=>fz v
 | .ag _=>false
 | .aO _=>false
 | _=>true
def aH(o:Nat)(v:SV):SV:=cond (names o v) .any v
def cm(o:Nat)(f:Fm):Fm:=f.map λp=>(p.1,aH o p.2)
def killO(o:Nat):SO->SO
 | .cells cs=>.cells (cs.map (aH o))
 | .map ks vs b=>.map ks (vs.map (aH o)) b
 | .iter m bs c pos=>.iter (aH o m) bs c pos
 | .kT ks vs bs c pos=>.kT ks vs bs c pos
 | .gone=>.gone
 | .loop c ls p f=>.loop c ls p (cm o f)
 | .ik N=>.ik N
def cT(f:Fm):Operand->Option SV
 | .tmp i=>if i<1000000 then some (aC f i) else none
 | .const v=>(fW depthV v).map qf
 | .func g=>some (.fn g [] [])
 | .global _=>none
def gF(f:Fm):List Operand->Option (List SV)
 | []=>some []
 | x::l=>(cT f x).bind λa=>(gF f l).map λb=>a::b
def eY(f:Fm):List (Nat×Operand)->Option (List (Nat×SV))
 | []=>some []
 | (i,x)::l=>(cT f x).bind λa=>(eY f l).map λb=>(i,a)::b
def lX(f:Fm):Option Operand->Option (Option AV)
 | none=>some none
 | some x=>match cT f x with
  | some (.a v)=>some (some v)
  | _=>none
def jr{α:Type}(p:Prop)[Decidable p](x:Option α):Option α:=if p then x else none
def aU(P:Program)(t:TypeId):Option (Nat×Bool):=(jz P t).bind λb=>(bn P t).map λn=>(n,b)
def aG(P:Program)(s:TypeId)(f:Nat):Option (Nat×TypeId×Nat):=match P.underlying s with
 | some (.struct fs)=>cond (fs.toList.all λf=>(bn P f.type).isSome) ((fs[f]?).bind λfd=>(bn P fd.type).map λn=>(fd.offset,fd.type,n)) none
 | _=>none
def CQ(P:Program)(t:TypeId):Option (Option Nat):=match P.underlying t with
 | some (.struct fs)=>cond (fs.toList.all λf=>(bn P f.type).isSome) (some none) none
 | some (.array _ e)=>(bn P e).map some
 | _=>none
def xo(P:Program)(t:TypeId):Option (TypeId×Nat):=match P.underlying t with
 | some (.slice e)=>(bn P e).map λs=>(e,s)
 | _=>none
def DD(P:Program)(t:TypeId):Option (Nat×TypeId×Nat):=match P.underlying t with
 | some (.array n e)=>(bn P e).map λs=>(n,e,s)
 | _=>none
inductive TK where
 | str | sl | map | other
def dX(P:Program)(t:TypeId):TK:=match P.underlying t with
 | some .string=>.str
 | some (.slice _)=>.sl
 | some (.map _ _)=>.map
 | _=>.other
def partS(P:Program)(t:TypeId)(cs:List SV)(off:Nat):Option SV:=(aU P t).bind λq=>match q.2 with
 | true=>jr (off+q.1<=cs.length) (some (.ag ((cs.drop off).take q.1)))
 | false=>cs[off]?
def jt(place:Nat->Option (Nat×Nat))(cells:List SV):List (Nat×SV)->Option (List SV)
 | []=>some cells
 | (i,v)::rest=>match place i with
  | none=>none
  | some (off,size)=>(bu v).bind λcs=>
   jr (cs.length=size/\off+size<=cells.length) (jt place (cells.take off++(cs++cells.drop (off+size))) rest)
def buildS(P:Program)(t:TypeId)(parts:List (Nat×SV)):Option SV:=
 (bT P t).bind λz=>(CQ P t).bind λq=>match q with
  | none=>(jt (λi=>(aG P t i).map λq=>(q.1,q.2.2)) (z.cells.map .a) parts).map .ag
  | some s=>(jt (λi=>some (i*s,s)) (z.cells.map .a) parts).map .ag
def fN(P:Program)(t:TypeId)(len:Nat)(parts:List (Nat×SV)):Option (Nat×List SV):=
 (xo P t).bind λq=>(bT P q.1).bind λz=>
  jr (len*q.2<=16777216/\z.cells.length=q.2/\q.2≠0)
   ((jt (λi=>some (i*q.2,q.2)) ((rep z.cells len).map .a) parts).map λcs=>(q.2,cs))
mutual
def bx:SV->Option AV
 | .a v=>some v
 | .ag cs=>(fc cs).map .agg
 | .iface t v=>(bx v).map (.iface t)
 | _=>none
def fc:List SV->Option (List AV)
 | []=>some []
 | d::ds=>(bx d).bind λa=>(fc ds).map λb=>a::b
end
def xJ:SV->Option Nat
 | .a v=>bN v
 | _=>none
def ly(P:Program)(kt:TypeId)(k:AV):List AV->Nat->Option (Option Nat)
 | [],_=>some none
 | e::es,i=>match fU P 4 kt k e with
  | some true=>some (some i)
  | some false=>ly P kt k es (i+1)
  | none=>none
def entS(S:List SO):SV->Option (List AV×List SV)
 | .map o=>match S[o]? with
  | some (.map ks vs _)=>some (ks,vs)
  | _=>none
 | .im ks vs=>some (ks,vs)
 | .a (.map none)=>some ([],[])
 | _=>none
def lookupS(P:Program)(S:List SO)(t:TypeId)(x k:SV)(ok:Bool):Option SV:=
 (bP P t).bind λ(kt,et)=>(bx k).bind λk=>cond (nQ P kt k)
  ((entS S x).bind λ(ks,vs)=>(ly P kt k ks 0).bind λr=>
   let v:Option (SV×Bool):=match r with
    | some i=>(vs[i]?).map λe=>(e,true)
    | none=>(bT P et).map λz=>(qf z,false)
   v.map λ(v,b)=>cond ok (.aO [v,.a (.bool b)]) v) none
def cZ(P:Program)(S:List SO)(t:TypeId)(x k v:SV):Option (List SO):=
 (bP P t).bind λ(kt,_)=>(bx k).bind λk=>cond (nQ P kt k)
  (
   match x with
   | .map o=>match S[o]? with
    | some (.map ks vs b)=>(ly P kt k ks 0).bind λr=>match r with
     | some i=>(ks[i]?).bind λk0=>cond (stays k k0) (some (S.set o (.map (ks.set i k) (vs.set i v) b))) none
     | none=>some (S.set o (.map (ks++[k]) (vs++[v]) (b.map λp=>(p.1++[p.2],p.2+1))))
    | _=>none
   | _=>none) none
def AH(P:Program)(S:List SO)(t:TypeId)(x k:SV):Option (List SO):=
 (bP P t).bind λ(kt,_)=>(bx k).bind λk=>cond (nQ P kt k)
  (
   match x with
   | .map o=>match S[o]? with
    | some (.map ks vs b)=>(ly P kt k ks 0).map λr=>match r with
     | some i=>S.set o (.map (ks.eraseIdx i) (vs.eraseIdx i) (b.map λp=>(p.1.eraseIdx i,p.2)))
     | none=>S
    | _=>none
   | _=>none) none
def jo(P:Program)(S:List SO)(t:TypeId)(x:SV):Option Nat:=match dX P t,x with
 | .str,.a (.str s)=>some s.length
 | .sl,.sl n _ _=>some n
 | .sl,.buf _ n _ _=>some n
 | .sl,.a (.slice none n _ _)=>some n
 | .map,x=>(entS S x).map λe=>e.1.length
 | .sl,.sub _ _ n _ _=>some n
 | .sl,.e0 _=>some 0
 | _,_=>none
def rowsS(S:List SO)(s:Nat):SV->Option (Nat×List SV)
 | .sl n e cs=>jr (e=s) (some (n,cs))
 | .buf o n e _=>match S[o]? with
  | some (.cells cs)=>jr (e=s/\n*s<=cs.length) (some (n,cs.take (n*s)))
  | _=>none
 | .a (.slice none 0 0 (some 0))=>some (0,[])
 | .sub o off n e _=>match S[o]? with
  | some (.cells cs)=>jr (e=s/\off+n*s<=cs.length) (some (n,(cs.drop off).take (n*s)))
  | _=>none
 | .e0 _=>some (0,[])
 | _=>none
def bZ(o:Nat)(S:List SO):List SO:=S.map (killO o)
def dG(S:List SO)(so:SO):List SO:=bZ S.length S++[killO S.length so]
def iS(P:Program)(e:TypeId):Bool:=match P.info? e with
 | some i=>ble i.bytes 10000
 | none=>false
def uc(S:List SO):SV->Option (SV×List SO×Option Nat)
 | .a (.slice none 0 0 (some 0))=>some (.a (.slice none 0 0 (some 0)),S,none)
 | .buf o n e c=>jr (n<=1000000) (some (.buf o n e c,S,none))
 | .e0 e=>some (.e0 e,S,none)
 | _=>none
def qi(S:List SO)(s:Nat)(x:SV)(p:Nat×List SV):Option (SV×List SO×Option Nat):=match x with
 | .a (.slice none 0 0 (some 0))=>some (.buf S.length p.1 s none,dG S (.cells p.2),some S.length)
 | .buf o n es none=>match S[o]? with
  | some (.cells cs)=>jr (es=s/\n<=1000000/\n*es<=cs.length)
   (some (.buf o (n+p.1) es none,(bZ o S).set o (killO o (.cells (cs.take (n*es)++p.2))),some o))
  | _=>none
 | .e0 e=>jr (e=s) (some (.buf S.length p.1 s none,dG S (.cells p.2),some S.length))
 | .buf o n es (some c)=>match S[o]? with
  | some (.cells cs)=>jr (es=s/\n<=1000000/\n*es<=cs.length/\c<n+p.1)
   (some (.buf S.length (n+p.1) es none,dG S (.cells (cs.take (n*es)++p.2)),some S.length))
  | _=>none
 | _=>none
def isInt(P:Program)(t:TypeId):Bool:=match P.underlying t with
 | some (.int _)=>true
 | _=>false
def lG(P:Program)(S:List SO)(xt:TypeId)(s:Nat)(z:AV)(y:SV):Option (Nat×List SV):=match dX P xt with
 | .sl=>rowsS S s y
 | .other=>cond (isInt P xt) ((xJ y).bind λn=>jr (n<=1000000) (some (n,(rep z.cells n).map .a))) none
 | _=>none
def kY(P:Program)(S:List SO)(st xt:TypeId)(x y:SV):Option (SV×List SO×Option Nat):=
 (xo P st).bind λq=>(bT P q.1).bind λz=>jr (z.cells.length=q.2/\q.2≠0/\iS P q.1=true)
  ((lG P S xt q.2 z y).bind λp=>if p.1=0 then uc S x else jr (p.1<=1000000/\p.2.all cH=true) (qi S q.2 x p))
def nS(isMax:Bool):SV->List SV->Option SV
 | x,[]=>some x
 | .a x,.a y::l=>(kI isMax x y).bind λz=>nS isMax (.a z) l
 | _,_=>none
def DF:SV->Option (Nat×Nat×Nat×Nat)
 | .buf o n e _=>some (o,0,n,e)
 | .sub o off n e _=>some (o,off,n,e)
 | _=>none
def ze(S:List SO)(s o off des:Nat)(rows:List SV)(n:Nat):Option (SV×List SO×Option Nat):=
 if n=0 then some (.a (.int .i64 0),S,none) else match S[o]? with
  | some (.cells cs)=>jr (des=s/\off+n*s<=cs.length/\n*s<=rows.length/\(rows.take (n*s)).all cH=true)
   (some (.a (.int .i64 (n:Nat)),S.set o (.cells (cs.take off++(rows.take (n*s)++cs.drop (off+n*s)))),none))
  | _=>none
def uF(P:Program)(S:List SO)(t:TypeId)(x y:SV):Option (SV×List SO×Option Nat):=(xo P t).bind λq=>(DF x).bind λ(o,off,dl,des)=>(rowsS S q.2 y).bind λp=>
 ze S q.2 o off des p.2 (Nat.min p.1 dl)
def oU(P:Program)(S:List SO)(t:TypeId)(x:SV):Option (SV×List SO×Option Nat):=(xo P t).bind λq=>(bT P q.1).bind λz=>(DF x).bind λ(o,off,n,es)=>
 if n=0 then some (.a e7,S,none) else match S[o]? with
  | some (.cells cs)=>jr (es=q.2/\z.cells.length=q.2/\off+n*q.2<=cs.length/\(rep z.cells n).all fz=true)
   (some (.a e7,S.set o (.cells (cs.take off++((rep z.cells n).map .a++cs.drop (off+n*q.2)))),none))
  | _=>none
def oQ:SV->Option Nat
 | .a (.slice none 0 0 (some 0))=>some 0
 | .buf _ _ _ (some c)=>some c
 | .sub _ _ _ _ (some c)=>some c
 | .e0 _=>some 0
 | _=>none
def bX(P:Program)(S:List SO)(b:Builtin)(ats:List TypeId)(xs:List SV):Option (SV×List SO×Option Nat):=match b,ats,xs with
 | .append,st::xt::_,[x,y]=>kY P S st xt x y
 | .len,t::_,x::_=>(jo P S t x).map λ(n:Nat)=>((SV.a (.int .i64 (n:Int)),S,none):SV×List SO×Option Nat)
 | .min,_,x::l=>(nS false x l).map λv=>(v,S,none)
 | .max,_,x::l=>(nS true x l).map λv=>(v,S,none)
 | .delete,t::_,x::k::_=>(AH P S t x k).map λS=>(.a e7,S,none)
 | .copy,dt::_,[x,y]=>uF P S dt x y
 | .clear,t::_,[x]=>oU P S t x
 | .cap,t::_,[x]=>(xo P t).bind λ_=>(oQ x).map λ(c:Nat)=>((SV.a (.int .i64 (c:Int)),S,none):SV×List SO×Option Nat)
 | _,_,_=>none
def vz:Option SV->Option SV->Option SV->Option SV
 | some (.a (.bool z)),some x,some y=>some (cond z x y)
 | _,_,_=>none
def loadS(P:Program)(S:List SO)(tt:TypeId):SV->Option SV
 | .ptr o off=>match S[o]? with
  | some (.cells cs)=>partS P tt cs off
  | _=>none
 | .ip cs=>partS P tt cs 0
 | _=>none
def pM(P:Program)(S:List SO)(tt:TypeId)(a x:SV):Option (List SO):=match a with
 | .ptr o off=>match S[o]? with
  | some (.cells cs)=>(aU P tt).bind λq=>(bu x).bind λvs=>
   jr (vs.length=q.1/\off+q.1<=cs.length/\vs.all cH=true) (some (S.set o (.cells (cs.take off++(vs++cs.drop (off+q.1))))))
  | _=>none
 | _=>none
def nilS(P:Program):SV->Option SV
 | .ptr o off=>some (.ptr o off)
 | .ip cs=>some (.ip cs)
 | .fn g a b=>some (.fn g a b)
 | .sl n e cs=>some (.sl n e cs)
 | .buf o n e c=>some (.buf o n e c)
 | .sub o off n e c=>some (.sub o off n e c)
 | .e0 e=>some (.e0 e)
 | .a (.fn (.method nm) [.iface t v] ys)=>(ep P t nm).map λ_=>.a (.fn (.method nm) [.iface t v] ys)
 | _=>none
def gr(P:Program)(s:TypeId)(x:SV)(f:Nat):Option SV:=(aG P s f).bind λq=>jr (q.2.2≠0) (match x with
 | .ptr o off=>some (.ptr o (off+q.1))
 | .ip cs=>jr (q.1<=cs.length) (some (.ip (cs.drop q.1)))
 | _=>none)
def mI(P:Program)(s:TypeId)(x:SV)(f:Nat):Option SV:=match x with
 | .ag cs=>(aG P s f).bind λq=>partS P q.2.1 cs q.1
 | _=>none
def indexAddrS(P:Program)(t:TypeId)(x:SV)(i:SV):Option SV:=(xJ i).bind λi=>match DD P t with
 | some q=>jr (i<q.1) (match x with
  | .ptr o off=>some (.ptr o (off+i*q.2.2))
  | .ip cs=>jr (i*q.2.2<=cs.length) (some (.ip (cs.drop (i*q.2.2))))
  | _=>none)
 | none=>(xo P t).bind λq=>match x with
  | .sl n es cs=>jr (i<n/\q.2=es) (some (.ip ((cs.drop (i*q.2)).take q.2)))
  | .buf o n es _=>jr (i<n/\q.2=es) (some (.ptr o (i*q.2)))
  | .sub o off n es _=>jr (i<n/\q.2=es) (some (.ptr o (off+i*q.2)))
  | _=>none
def indexS(P:Program)(t:TypeId)(x:SV)(i:SV):Option SV:=(xJ i).bind λi=>match x with
 | .ag cs=>(DD P t).bind λq=>jr (i<q.1) (partS P q.2.1 cs (i*q.2.2))
 | .a (.str s)=>match dX P t with
  | .str=>(s[i]?).map λb=>.a (.int .u8 (ofNat b))
  | _=>none
 | _=>none
def dr(P:Program)(t:TypeId)(x:SV)(lo hi mx:Option AV):Option SV:=match dX P t,x with
 | .str,.a (.str s)=>match mx with
  | some _=>none
  | none=>(br s.length (some s.length) lo hi none).map λ(l,hh,_)=>.a (.str ((s.drop l).take (hh-l)))
 | .sl,.sl n es cs=>match mx with
  | some m=>(xo P t).bind λq=>jr (lo=none/\hi.bind bN=some 0/\bN m=some 0/\q.2=es) (some (.e0 q.2))
  | none=>(xo P t).bind λq=>(br n none lo hi none).bind λ(l,hh,_)=>jr (q.2=es) (some (.sl (hh-l) q.2 ((cs.drop (l*q.2)).take ((hh-l)*q.2))))
 | .sl,.buf o n es c=>match mx with
  | some _=>none
  | none=>(xo P t).bind λq=>(br n c lo hi none).bind λ(l,hh,m)=>jr (q.2=es) (some (match lo with
   | none=>.buf o (hh-l) q.2 (isSub m l)
   | some _=>.sub o (l*q.2) (hh-l) q.2 (isSub m l)))
 | .sl,.sub o off n es c=>match mx with
  | some _=>none
  | none=>(xo P t).bind λq=>(br n c lo hi none).bind λ(l,hh,m)=>jr (q.2=es) (some (.sub o (off+l*q.2) (hh-l) q.2 (isSub m l)))
 | .sl,.a (.slice none 0 0 (some 0))=>(xo P t).bind λ_=>(br 0 (some 0) lo hi mx).map λ_=>.a (.slice none 0 0 (some 0))
 | .sl,.e0 e=>(xo P t).bind λq=>(br 0 (some 0) lo hi mx).bind λ(l,hh,m)=>jr (l=0/\hh=0/\m=some 0/\q.2=e) (some (.e0 e))
 | _,_=>none
def zy(P:Program)(t:TypeId):Bool:=match P.underlying t with
 | some (.interface _)=>false
 | some _=>true
 | none=>false
def sOp(P:Program)(f:Fm)(S:List SO)(op:Op):Option (SV×List SO×Option Nat):=match op with
 | .move x=>(cT f x).map λv=>(v,S,none)
 | .assign x=>(cT f x).map λv=>(v,S,none)
 | .pick c a b=>(vz (cT f c) (cT f a) (cT f b)).map λv=>(v,S,none)
 | .alloc e=>(bT P e).map λz=>(.ptr S.length 0,dG S (.cells (z.cells.map .a)),some S.length)
 | .box _ x=>(cT f x).bind λv=>(bu v).map λcs=>(.ptr S.length 0,dG S (.cells cs),some S.length)
 | .build tt ps=>(eY f ps.toList).bind λl=>(buildS P tt l).map λv=>(v,S,none)
 | .buildSlice tt n ps=>(eY f ps.toList).bind λl=>(fN P tt n l).map λq=>(.buf S.length n q.1 (some n),dG S (.cells q.2),some S.length)
 | .makeMap _ none=>some (.map S.length,dG S (.map [] [] none),some S.length)
 | .makeSlice tt l c=>match cT f l,cT f c with
  | some (.a l),some (.a c)=>(dO P tt l c).map λq=>(.buf S.length q.1 q.2.1 (some q.2.2.1),dG S (.cells (q.2.2.2.map .a)),some S.length)
  | _,_=>none
 | .load tt a=>(cT f a).bind λa=>(loadS P S tt a).map λv=>(v,S,none)
 | .store tt a x=>(cT f a).bind λa=>(cT f x).bind λx=>(pM P S tt a x).map λS=>(.a e7,S,none)
 | .nilCheck x=>(cT f x).bind λx=>(nilS P x).map λv=>(v,S,none)
 | .binOp op t x y _=>(cT f x).bind λx=>(cT f y).bind λy=>(bx x).bind λx=>(bx y).bind λy=>(bz P op t x y).map λv=>(.a v,S,none)
 | .unOp op _ x=>(cT f x).bind λx=>(bx x).bind λx=>(Es op x).map λv=>(.a v,S,none)
 | .convert s d x=>(cT f x).bind λx=>(bx x).bind λx=>(fO P s d x).map λv=>(.a v,S,none)
 | .makeInterface t x=>cond (zy P t) ((cT f x).map λv=>(.iface t v,S,none)) none
 | .makeFunc (.func g) first cap=>(gF f first.toList).bind λa=>(gF f cap.toList).map λb=>(.fn g a b,S,none)
 | .slice tt x lo hi mx=>(cT f x).bind λx=>(lX f lo).bind λlo=>(lX f hi).bind λhi=>(lX f mx).bind λmx=>(dr P tt x lo hi mx).map λv=>(v,S,none)
 | .fieldAddr s x fl=>(cT f x).bind λx=>(gr P s x fl).map λv=>(v,S,none)
 | .field s x fl=>(cT f x).bind λx=>(mI P s x fl).map λv=>(v,S,none)
 | .indexAddr t x i=>(cT f x).bind λx=>(cT f i).bind λi=>(indexAddrS P t x i).map λv=>(v,S,none)
 | .index t x i=>(cT f x).bind λx=>(cT f i).bind λi=>(indexS P t x i).map λv=>(v,S,none)
 | .lookup t x k ok=>(cT f x).bind λx=>(cT f k).bind λk=>(lookupS P S t x k ok).map λv=>(v,S,none)
 | .mapUpdate t m k x=>(cT f m).bind λm=>(cT f k).bind λk=>(cT f x).bind λx=>(cZ P S t m k x).map λS=>(.a e7,S,none)
 | .insert t m k x=>(cT f m).bind λm=>(cT f k).bind λk=>(cT f x).bind λx=>(cZ P S t m k x).map λS=>(.a e7,S,none)
 | .extract x i=>match cT f x with
  | some (.aO vs)=>(vs[i]?).map λv=>(v,S,none)
  | _=>none
 | .call { callee:=.builtin b,args:=aS,argTypes:=ats }=>(gF f aS.toList).bind λxs=>bX P S b ats.toList xs
 | .makeFunc (.method nm) first cap=>(gF f first.toList).bind λa=>(fc a).bind λa=>(gF f cap.toList).bind λb=>(fc b).map λb=>(.a (.fn (.method nm) a b),S,none)
 | _=>none
def eU(k:Option Nat)(v:SV):SV:=match k with
 | none=>v
 | some o=>aH o v
def ez(f:Fm)(kill:Option Nat):Fm:=match kill with
 | none=>f
 | some o=>cm o f
def j9(f:Fm)(kill:Option Nat)(dst:Option Tmp)(v:SV):Fm:=match dst with
 | none=>ez f kill
 | some d=>(d,v)::ez f kill
section
variable {θ:Nat->Loc} {ρ:ff} {P:Program}
theorem bK.a:∀(aS:List AV),bK θ ρ (aS.map .a) aS
 | []=>by rw[bw,aI]
 | a::aS=>by rw[a0,az];exact⟨a,aS,rfl,by rw[VS],bK.a aS⟩
def pN(v:AV):VS θ ρ (qf v) v:=by
 unfold qf;split
 ·rw[VS];exact⟨_,rfl,bK.a _⟩
 ·rw[VS]
def aQ{f:Fm}{af:Nat->AV}{n:Nat}{wv:Nat->AV}(hF:FR θ ρ (aC f) af n wv){x:Operand}{v:SV}(h:cT f x=some v):∃a,ev (cg af n) x=some a/\VS θ ρ v a:=by
 cases x with
 | tmp i=>
  simp only[cT] at h
  have hlim:i<1000000:=by
   apply Decidable.byContradiction;intro hn;rw[ul hn] at h;cases h
  rw[t8 hlim] at h;cases h;have:=hF.v i;by_cases hi:i<n
  ·rw[t8 hi] at this;exact⟨_,Ec hi,this⟩
  ·rw[ul hi,hF.u i hlim] at this
   exact⟨e7,by
    have:(cg af n).get i=none:=pO af n i (Nat.le_of_not_lt hi)
    simp only[ev,this],this⟩
 | const c=>
  simp only[cT] at h;obtain⟨a,ha,rfl⟩:=ai h;exact⟨a,ha,pN a⟩
 | func g=>
  simp only[cT,Option.some.injEq] at h;subst h;exact⟨_,CY,by rw[VS];exact⟨[],[],rfl,by rw[aI],by rw[aI]⟩⟩
 | global g=>simp[cT] at h
def fH{f:Fm}{af:Nat->AV}{n:Nat}{wv:Nat->AV}(hF:FR θ ρ (aC f) af n wv):∀{l:List Operand} {vs:List SV},gF f l=some vs->∃aS,nO (cg af n) l=some aS/\bK θ ρ vs aS
 | [],vs,h=>by
  simp only[gF,Option.some.injEq] at h;subst h;exact⟨[],rfl,by rw[aI]⟩
 | x::l,vs,h=>by
  rw[gF] at h;obtain⟨v,hv,h⟩:=bind_eq_some_iff.1 h;obtain⟨ws,hw,rfl⟩:=ai h;obtain⟨a,ha,ka⟩:=aQ hF hv;obtain⟨aS,hs,ks⟩:=fH hF hw;exact⟨a::aS,by rw[BO,ha,hs];rfl,by rw[az];exact⟨a,aS,rfl,ka,ks⟩⟩
def EH(θ:Nat->Loc)(ρ:ff):List (Nat×SV)->List (Nat×AV)->Prop
 | [],aS=>aS=[]
 | (i,v)::l,aS=>∃a r,aS=(i,a)::r/\VS θ ρ v a/\EH θ ρ l r
def mX{f:Fm}{af:Nat->AV}{n:Nat}{wv:Nat->AV}(hF:FR θ ρ (aC f) af n wv):∀{l:List (Nat×Operand)} {vs:List (Nat×SV)},eY f l=some vs->∃aS,gb (cg af n) l=some aS/\EH θ ρ vs aS
 | [],vs,h=>by
  simp only[eY,Option.some.injEq] at h;subst h;exact⟨[],rfl,rfl⟩
 | (i,x)::l,vs,h=>by
  rw[eY] at h;obtain⟨v,hv,h⟩:=bind_eq_some_iff.1 h;obtain⟨ws,hw,rfl⟩:=ai h;obtain⟨a,ha,ka⟩:=aQ hF hv;obtain⟨aS,hs,ks⟩:=mX hF hw;exact⟨(i,a)::aS,by rw[vy,ha,hs];rfl,a,aS,rfl,ka,ks⟩
def sV{f:Fm}{af:Nat->AV}{n:Nat}{wv:Nat->AV}(hF:FR θ ρ (aC f) af n wv){o:Option Operand}{v:Option AV}(h:lX f o=some v):BN (cg af n) o=some v:=by
 cases o with
 | none=>simp only[lX,Option.some.injEq] at h;subst h;rfl
 | some x=>
  simp only[lX] at h;split at h
  ·rename_i w hw;cases h;obtain⟨a,ha,ka⟩:=aQ hF hw;rw[VS] at ka;subst ka;simp only[BN,ha,aj]
  ·cases h
def AB{v:AV}(h:∀cs,v≠.agg cs):v.cells=[v]:=by
 cases v<;>first | rfl | exact t7 rfl (h _)
def mE{v:SV}{x:AV}(hv:VS θ ρ v x){cs:List SV}(h:bu v=some cs):bK θ ρ cs x.cells:=by
 have one:∀{w:SV},VS θ ρ w x->(∀cs,x≠.agg cs)->bK θ ρ [w] x.cells:=by
  intro w hw hx;rw[AB hx,az];exact⟨x,[],rfl,hw,by rw[aI]⟩
 cases v with
 | any=>simp[bu] at h
 | a v=>
  have hv':=hv;rw[VS] at hv;subst hv
  cases x with
  | agg cs'=>simp only[bu,Option.some.injEq] at h;subst h;exact bK.a _
  | _=>simp only[bu,Option.some.injEq] at h;subst h;exact one hv' (λ_ h=>by cases h)
 | ag cs'=>
  simp only[bu,Option.some.injEq] at h;subst h;rw[VS] at hv;obtain⟨aS,rfl,h2⟩:=hv;exact h2
 | sl n e cs'=>
  simp only[bu,Option.some.injEq] at h;subst h;refine one hv ?_;rw[VS,GS] at hv
  rcases hv with⟨_,_,o,e',c,rfl,_,_⟩ | ⟨id,off,cap,row,rfl,_⟩<;>exact λ_ h=>by cases h
 | im ks vs=>
  simp only[bu,Option.some.injEq] at h;subst h;refine one hv ?_;rw[VS,GS] at hv;obtain⟨id,l,c,rfl,_⟩:=hv
  exact λ_ h=>by cases h
 | ip cs'=>
  simp only[bu,Option.some.injEq] at h;subst h;refine one hv ?_;rw[VS,GS] at hv;obtain⟨id,off,row,r,rfl,_⟩:=hv
  exact λ_ h=>by cases h
 | ptr o off=>
  simp only[bu,Option.some.injEq] at h;subst h;refine one hv ?_
  rw[VS] at hv;subst hv;exact λ_ h=>by cases h
 | map o=>
  simp only[bu,Option.some.injEq] at h;subst h;refine one hv ?_
  rw[VS] at hv;subst hv;exact λ_ h=>by cases h
 | buf o n e c=>
  simp only[bu,Option.some.injEq] at h;subst h;refine one hv ?_
  rw[VS] at hv;subst hv;exact λ_ h=>by cases h
 | sub o off n e c=>
  simp only[bu,Option.some.injEq] at h;subst h;refine one hv ?_
  rw[VS] at hv;subst hv;exact λ_ h=>by cases h
 | e0 e=>
  simp only[bu,Option.some.injEq] at h;subst h;refine one hv ?_
  rw[VS] at hv;obtain⟨o,e',rfl,_⟩:=hv;exact λ_ h=>by cases h
 | aO vs=>
  simp only[bu,Option.some.injEq] at h;subst h;refine one hv ?_
  rw[VS] at hv;obtain⟨aS,rfl,_⟩:=hv;exact λ_ h=>by cases h
 | fn g a b=>
  simp only[bu,Option.some.injEq] at h;subst h;refine one hv ?_
  rw[VS] at hv;obtain⟨aS,bs,rfl,_⟩:=hv;exact λ_ h=>by cases h
 | iface t v=>
  simp only[bu,Option.some.injEq] at h;subst h;refine one hv ?_
  rw[VS] at hv;obtain⟨y,rfl,_⟩:=hv;exact λ_ h=>by cases h
def Dc{v:SV}{x:AV}(hv:VS θ ρ v x)(h:cH v=true):fz x=true:=by
 cases v with
 | any=>simp[cH] at h
 | a v=>rw[VS] at hv;subst hv;exact h
 | ag cs=>simp[cH] at h
 | aO cs=>simp[cH] at h
 | sl n e cs=>rw[VS,GS] at hv;rcases hv with⟨_,_,o,e',c,rfl,_,_⟩ | ⟨id,off,cap,row,rfl,_⟩<;>rfl
 | im ks vs=>rw[VS,GS] at hv;obtain⟨id,l,c,rfl,_⟩:=hv;rfl
 | ip cs=>rw[VS,GS] at hv;obtain⟨id,off,row,r,rfl,_⟩:=hv;rfl
 | ptr o off=>rw[VS] at hv;subst hv;rfl
 | map o=>rw[VS] at hv;subst hv;rfl
 | buf o n e c=>rw[VS] at hv;subst hv;rfl
 | sub o off n e c=>rw[VS] at hv;subst hv;rfl
 | e0 e=>rw[VS] at hv;obtain⟨o,e',rfl,_⟩:=hv;rfl
 | fn g a b=>rw[VS] at hv;obtain⟨aS,bs,rfl,_⟩:=hv;rfl
 | iface t v=>rw[VS] at hv;obtain⟨y,rfl,_⟩:=hv;rfl
def iq:∀{vs:List SV} {xs:List AV},bK θ ρ vs xs->vs.all cH=true->xs.all fz=true
 | [],xs,hv,_=>by rw[aI] at hv;subst hv;rfl
 | d::ds,xs,hv,h=>by
  rw[az] at hv;obtain⟨a,r,rfl,h1,h2⟩:=hv;rw[cv,a3] at h ⊢;exact⟨Dc h1 h.1,iq h2 h.2⟩
def aZ{α:Type}{p:Prop}[Decidable p]{x:Option α}{y:α}(h:jr p x=some y):p/\x=some y:=by
 unfold jr at h;split at h
 ·rename_i hp;exact⟨hp,h⟩
 ·cases h
def mn{t:TypeId}{q:Nat×Bool}(h:aU P t=some q):jz P t=some q.2/\bn P t=some q.1:=by
 unfold aU at h;obtain⟨b,hb,h⟩:=bind_eq_some_iff.1 h;obtain⟨n,hn,rfl⟩:=ai h;exact⟨hb,hn⟩
def mK{s:TypeId}{f:Nat}{q:Nat×TypeId×Nat}(h:aG P s f=some q):∃fs fd,P.underlying s=some (.struct fs)/\fs.toList.all (λf=>(bn P f.type).isSome)=true/\fs[f]?=some fd/\bn P fd.type=some q.2.2/\fd.offset=q.1/\fd.type=q.2.1:=by
 unfold aG at h;split at h
 ·rename_i fs hu;obtain⟨hb,h⟩:=aw h;obtain⟨fd,hfd,h⟩:=bind_eq_some_iff.1 h;obtain⟨n,hn,rfl⟩:=ai h;exact⟨fs,fd,hu,hb,hfd,hn,rfl,rfl⟩
 ·cases h
def dx{t:TypeId}{q:TypeId×Nat}(h:xo P t=some q):P.underlying t=some (.slice q.1)/\bn P q.1=some q.2:=by
 unfold xo at h;split at h
 ·rename_i e hu;obtain⟨n,hn,rfl⟩:=ai h;exact⟨hu,hn⟩
 ·cases h
def uf{t:TypeId}{q:Nat×TypeId×Nat}(h:DD P t=some q):P.underlying t=some (.array q.1 q.2.1)/\bn P q.2.1=some q.2.2:=by
 unfold DD at h;split at h
 ·rename_i n e hu;obtain⟨s,hs,rfl⟩:=ai h;exact⟨hu,hs⟩
 ·cases h
def pk{t:TypeId}(h:dX P t=.str):P.underlying t=some .string:=by
 unfold dX at h
 split at h<;>first | assumption | cases h
def iY{t:TypeId}(h:dX P t=.sl):∃e,P.underlying t=some (.slice e):=by
 unfold dX at h
 split at h<;>first | exact⟨_,by assumption⟩ | cases h
def BT{t:TypeId}(h:dX P t=.map):∃k e,P.underlying t=some (.map k e):=by
 unfold dX at h
 split at h<;>first | exact⟨_,_,by assumption⟩ | cases h
def lK{t:TypeId}{cs:List SV}{aS:List AV}(hv:bK θ ρ cs aS){off:Nat}{v:SV}(h:partS P t cs off=some v):∃a,partA P t aS off=some a/\VS θ ρ v a:=by
 unfold partS at h;obtain⟨q,hq,h⟩:=bind_eq_some_iff.1 h;obtain⟨h1,h2⟩:=mn hq;obtain⟨n,b⟩:=q;unfold partA;simp only at h1 h2 h;rw[h1];cases b
 ·exact hv.get h
 ·simp only at h ⊢;obtain⟨hle,h⟩:=aZ h;cases h;rw[h2,ac,hv.length,cP hle,ab];exact⟨_,rfl,by rw[VS];exact⟨_,rfl,(hv.drop off).take n⟩⟩
def rD{h:H}{id:Nat}{aS:List AV}(hr:kg h.aD id=some aS)(t:TypeId)(off:Nat):h.load P t id off=partA P t aS off:=by
 unfold H.load partA H.chunk;unfold kg at hr
 cases ho:h.aD.get id with
 | none=>rw[ho] at hr;cases hr
 | some ob=>
  rw[ho] at hr
  cases ob with
  | cells cs aX=>
   have hr:some cs=some aS:=hr;cases hr
   cases jz P t with
   | none=>rfl
   | some b=>
    cases b
    ·rfl
    ·simp only
     cases bn P t with
     | none=>rfl
     | some n=>simp only[ac];cases ble (off+n) aS.length<;>rfl
  | ro cs=>
   have hr:some cs=some aS:=hr;cases hr
   cases jz P t with
   | none=>rfl
   | some b=>
    cases b
    ·rfl
    ·simp only
     cases bn P t with
     | none=>rfl
     | some n=>simp only[ac];cases ble (off+n) aS.length<;>rfl
  | _=>cases hr
def AY{t:TypeId}{row:List AV}{off r k:Nat}(hl:off+r<=row.length){v:AV}(h:partA P t ((row.drop off).take r) k=some v):partA P t row (off+k)=some v:=by
 unfold partA at h ⊢;split at h
 ·obtain⟨n,hn,h⟩:=bind_eq_some_iff.1 h;obtain⟨hb,h⟩:=aw h;cases h;have hb:=a9 hb;rw[cl,ci] at hb;rw[hn,ac,cP (show off+k+n<=row.length by omega),ab,cc,cd,b7,bi (by omega)]
 ·rw[List.getElem?_take] at h;split at h
  ·rw[List.getElem?_drop] at h;exact h
  ·cases h
 ·cases h
def lr{place:Nat->Option (Nat×Nat)}:∀{parts:List (Nat×SV)} {ps:List (Nat×AV)} {cells:List SV} {aS:List AV} {out:List SV},EH θ ρ parts ps->bK θ ρ cells aS->jt place cells parts=some out->∃o,fb place aS ps=some o/\bK θ ρ out o
 | [],ps,cells,aS,out,hp,hc,h=>by
  have hp:ps=[]:=hp;subst hp;simp only[jt,Option.some.injEq] at h;subst h;exact⟨aS,rfl,hc⟩
 | (i,v)::l,ps,cells,aS,out,hp,hc,h=>by
  obtain⟨a,r,rfl,h1,h2⟩:=hp;simp only[jt] at h;simp only[fb];split at h
  ·cases h
  ·rename_i off size hpl;rw[hpl];simp only;obtain⟨cs,hcs,h⟩:=bind_eq_some_iff.1 h;obtain⟨⟨hb1,hb2⟩,h⟩:=aZ h;have k:=mE h1 hcs;subst hb1;rw[k.length,hc.length,ad,cP hb2,ap,ab];exact lr h2 ((hc.take off).app (k.app (hc.drop _))) h
def na{p q:Nat->Option (Nat×Nat)}(hpq:∀i,(p i).isSome=true->q i=p i):∀{ps:List (Nat×AV)} {aS o:List AV},fb p aS ps=some o->fb q aS ps=some o
 | [],aS,o,h=>h
 | (i,v)::l,aS,o,h=>by
  simp only[fb] at h ⊢
  cases hp:p i with
  | none=>rw[hp] at h;cases h
  | some x=>
   obtain⟨off,size⟩:=x;rw[hpq i (by rw[hp];rfl),hp];rw[hp] at h;simp only at h ⊢;obtain⟨hb,h⟩:=aw h;rw[hb,ab];exact na hpq h
def AA{t:TypeId}{parts:List (Nat×SV)}{ps:List (Nat×AV)}(hp:EH θ ρ parts ps){v:SV}(h:buildS P t parts=some v):∃a,mD P t ps=some a/\VS θ ρ v a:=by
 unfold buildS at h;unfold mD;obtain⟨z,hz,h⟩:=bind_eq_some_iff.1 h;obtain⟨q,hq,h⟩:=bind_eq_some_iff.1 h;rw[hz,ac];unfold CQ at hq;split at hq
 ·rename_i fs hu;obtain⟨hb,hq⟩:=aw hq;cases hq;simp only at h;obtain⟨o,ho,rfl⟩:=ai h;obtain⟨w,hw,kw⟩:=lr hp (bK.a z.cells) ho
  have hw:=na (q:=mT P fs) (λi hi=>by
   cases hf:aG P t i with
   | none=>rw[hf] at hi;cases hi
   | some q=>
    obtain⟨fs',fd,e1,_,e3,e4,e5,_⟩:=mK hf;rw[hu] at e1;cases e1;unfold mT
    rw[e3,ac,e4,aj,e5];rfl) hw
  rw[hu];simp only;rw[hb,ab,hw];exact⟨_,rfl,by rw[VS];exact⟨_,rfl,kw⟩⟩
 ·rename_i n e hu;obtain⟨s,hs,rfl⟩:=ai hq;simp only at h;obtain⟨o,ho,rfl⟩:=ai h;obtain⟨w,hw,kw⟩:=lr hp (bK.a z.cells) ho;rw[hu];simp only;rw[hs,ac,hw];exact⟨_,rfl,by rw[VS];exact⟨_,rfl,kw⟩⟩
 ·cases hq
def oO{t:TypeId}{len:Nat}{parts:List (Nat×SV)}{ps:List (Nat×AV)}(hp:EH θ ρ parts ps){q:Nat×List SV}(h:fN P t len parts=some q):∃cs,dK P t len ps=some (q.1,cs)/\bK θ ρ q.2 cs:=by
 unfold fN at h;unfold dK;obtain⟨el,hel,h⟩:=bind_eq_some_iff.1 h;obtain⟨z,hz,h⟩:=bind_eq_some_iff.1 h;obtain⟨⟨b1,b2,b3⟩,h⟩:=aZ h;obtain⟨o,ho,rfl⟩:=ai h;obtain⟨hu,hs⟩:=dx hel;obtain⟨w,hw,kw⟩:=lr hp (bK.a (rep z.cells len)) ho
 have hb0:beq el.2 0=false:=by
  cases hb:beq el.2 0
  ·rfl
  ·exact t7 (bD hb) b3
 rw[hu];simp only;rw[hs,ac,hz,ac,cP b1,b2,ad,hb0];simp only[a4,ap,ab];rw[hw];exact⟨w,rfl,kw⟩
mutual
def eQ:∀{v:SV} {x a:AV},VS θ ρ v x->bx v=some a->x=a
 | .a v,x,a,hv,h=>by rw[VS] at hv;rw[bx] at h;cases h;exact hv
 | .ag cs,x,a,hv,h=>by
  rw[VS] at hv;rw[bx] at h;obtain⟨aS,rfl,h2⟩:=hv;obtain⟨bs,hb,rfl⟩:=ai h;rw[jv h2 hb]
 | .any,_,_,_,h=>by simp[bx] at h
 | .sl _ _ _,_,_,_,h=>by simp[bx] at h
 | .im _ _,_,_,_,h=>by simp[bx] at h
 | .ip _,_,_,_,h=>by simp[bx] at h
 | .ptr _ _,_,_,_,h=>by simp[bx] at h
 | .map _,_,_,_,h=>by simp[bx] at h
 | .buf _ _ _ _,_,_,_,h=>by simp[bx] at h
 | .sub _ _ _ _ _,_,_,_,h=>by simp[bx] at h
 | .e0 _,_,_,_,h=>by simp[bx] at h
 | .aO _,_,_,_,h=>by simp[bx] at h
 | .fn _ _ _,_,_,_,h=>by simp[bx] at h
 | .iface t v,x,a,hv,h=>by
  rw[VS] at hv;rw[bx] at h;obtain⟨y,rfl,h2⟩:=hv;obtain⟨b,hb,rfl⟩:=ai h;rw[eQ h2 hb]
def jv:∀{vs:List SV} {xs aS:List AV},bK θ ρ vs xs->fc vs=some aS->xs=aS
 | [],xs,aS,hv,h=>by rw[aI] at hv;rw[fc] at h;cases h;exact hv
 | d::ds,xs,aS,hv,h=>by
  rw[az] at hv;rw[fc] at h;obtain⟨a,r,rfl,h1,h2⟩:=hv;obtain⟨b,hb,h⟩:=bind_eq_some_iff.1 h;obtain⟨bs,hbs,rfl⟩:=ai h;rw[eQ h1 hb,jv h2 hbs]
end
def lz{kt:TypeId}{k:AV}:∀(l:List (AV×AV×Nat)) (i:Nat),dN P kt k l i=ly P kt k (l.map (·.1)) i
 | [],_=>rfl
 | e::l,i=>by
  rw[a0];unfold dN ly
  cases fU P 4 kt k e.1 with
  | none=>rfl
  | some b=>
   cases b
   ·exact lz l (i+1)
   ·rfl
def sJ{b:Bool}:∀{l:List SV} {x:SV} {xa:AV} {aS:List AV} {v:SV},VS θ ρ x xa->bK θ ρ l aS->nS b x l=some v->∃a,gS b xa aS=some a/\VS θ ρ v a
 | [],x,xa,aS,v,hx,hl,h=>by
  rw[aI] at hl;subst hl
  have:v=x:=by
   cases x<;>simp only[nS,Option.some.injEq] at h<;>exact h.symm
  subst this;exact⟨xa,rfl,hx⟩
 | y::l,x,xa,aS,v,hx,hl,h=>by
  rw[az] at hl;obtain⟨ya,r,rfl,h1,h2⟩:=hl
  cases x with
  | a x=>
   cases y with
   | a y=>
    rw[VS] at hx h1;subst hx;subst h1;simp only[nS] at h;obtain⟨z,hz,h⟩:=bind_eq_some_iff.1 h;obtain⟨w,hw,kw⟩:=sJ (x:=.a z) (xa:=z) (by rw[VS]) h2 h;exact⟨w,by simp only[gS,hz,ac];exact hw,kw⟩
   | _=>simp[nS] at h
  | _=>simp[nS] at h
end
section
variable {θ θ':Nat->Loc} {ρ ρ0:ff} {P:Program}
mutual
def VS.ids(hθ:∀p,(θ' p).id=(θ p).id):∀{v:SV} {x:AV},VS θ ρ v x->VS θ' ρ v x
 | .any,_,_=>by rw[VS];trivial
 | .a v,x,h=>by rw[VS] at h ⊢;exact h
 | .sl n e cs,x,h=>by rw[VS] at h ⊢;exact h
 | .im ks vs,x,h=>by rw[VS] at h ⊢;exact h
 | .ip cs,x,h=>by rw[VS] at h ⊢;exact h
 | .ptr p _,_,h=>by rw[VS] at h ⊢;rw[hθ p];exact h
 | .map p,_,h=>by rw[VS] at h ⊢;rw[hθ p];exact h
 | .buf p _ _ _,_,h=>by rw[VS] at h ⊢;rw[hθ p];exact h
 | .sub p _ _ _ _,_,h=>by rw[VS] at h ⊢;rw[hθ p];exact h
 | .e0 e,x,h=>by rw[VS] at h ⊢;exact h
 | .ag cs,x,h=>by rw[VS] at h ⊢;obtain⟨aS,h1,h2⟩:=h;exact⟨aS,h1,bK.ids hθ h2⟩
 | .aO cs,x,h=>by rw[VS] at h ⊢;obtain⟨aS,h1,h2⟩:=h;exact⟨aS,h1,bK.ids hθ h2⟩
 | .fn g f c,x,h=>by rw[VS] at h ⊢;obtain⟨xs,ys,h1,h2,h3⟩:=h;exact⟨xs,ys,h1,bK.ids hθ h2,bK.ids hθ h3⟩
 | .iface t v,x,h=>by rw[VS] at h ⊢;obtain⟨y,h1,h2⟩:=h;exact⟨y,h1,VS.ids hθ h2⟩
def bK.ids(hθ:∀p,(θ' p).id=(θ p).id):∀{ds:List SV} {aS:List AV},bK θ ρ ds aS->bK θ' ρ ds aS
 | [],aS,h=>by rw[aI] at h ⊢;exact h
 | d::ds,aS,h=>by
  rw[az] at h ⊢;obtain⟨a,r,h1,h2,h3⟩:=h;exact⟨a,r,h1,VS.ids hθ h2,bK.ids hθ h3⟩
end
def ef{o:Nat}(hθ:∀p,p≠o->θ' p=θ p){v:SV}{x:AV}(h:VS θ ρ v x):VS θ' ρ (aH o v) x:=by
 unfold aH;cases hn:names o v
 ·exact h.lZ hθ hn
 ·rw[ab,VS];trivial
def bK.map{g:SV->SV}(hg:∀v x,VS θ ρ v x->VS θ' ρ (g v) x):∀{ds:List SV} {aS:List AV},bK θ ρ ds aS->bK θ' ρ (ds.map g) aS
 | [],aS,h=>by rw[aI] at h;rw[bw,aI];exact h
 | d::ds,aS,h=>by
  rw[az] at h;rw[a0,az];obtain⟨a,r,h1,h2,h3⟩:=h;exact⟨a,r,h1,hg _ _ h2,bK.map hg h3⟩
def dU(o:Nat):∀(f:Fm) (i:Nat),aC (cm o f) i=aH o (aC f i)
 | [],i=>rfl
 | (d,v)::f,i=>by
  show(if d=i then aH o v else aC (cm o f) i)=aH o (if d=i then v else aC f i);rw[dU o f i];by_cases h:d=i
  ·rw[t8 h,t8 h]
  ·rw[ul h,ul h]
def kH(g:SV->SV):SO->SO
 | .cells cs=>.cells (cs.map g)
 | .map ks vs b=>.map ks (vs.map g) b
 | .iter m bs c pos=>.iter (g m) bs c pos
 | .kT ks vs bs c pos=>.kT ks vs bs c pos
 | .gone=>.gone
 | .loop c ls p f=>.loop c ls p (f.map λq=>(q.1,g q.2))
 | .ik N=>.ik N
def rj(g:SV->SV):∀(f:Fm) (i:Nat),aC (f.map λq=>(q.1,g q.2)) i=g (aC f i)\/aC (f.map λq=>(q.1,g q.2)) i=.any
 | [],i=>.inr rfl
 | (d,v)::f,i=>by
  show(if d=i then g v else aC (f.map λq=>(q.1,g q.2)) i)=g (if d=i then v else aC f i)\/(if d=i then g v else aC (f.map λq=>(q.1,g q.2)) i)=.any;by_cases h:d=i
  ·rw[t8 h,t8 h];exact .inl rfl
  ·rw[ul h,ul h];exact rj g f i
def BS(o:Nat):killO o=kH (aH o):=by funext so;cases so<;>rfl
def lF(so:SO):kH (λv=>v) so=so:=by cases so<;>simp[kH]
def rI{g:SV->SV}{so:SO}(h:kH g so≠.gone):so≠.gone:=by intro e;subst e;exact h rfl
def gO.map{g:SV->SV}(hg:∀v x,VS θ ρ v x->VS θ' ρ (g v) x){h h':H}{L:Loc}{so:SO}(hx:gO θ ρ h L so)(ho:h'.aD.get L.id=h.aD.get L.id)(hf:h'.bW.get L.aX=h.bW.get L.aX):gO θ' ρ h' L (kH g so):=by
 cases so with
 | cells cs=>obtain⟨aS,h1,h2,h3⟩:=hx;exact⟨aS,by rw[ho];exact h1,h2.map hg,by rw[hf];exact h3⟩
 | map ks vs b=>obtain⟨l,c,h1,h2,h3⟩:=hx;exact⟨l,c,by rw[ho];exact h1,h2,h3.map hg⟩
 | iter m bs c pos=>obtain⟨mid,h1,h2⟩:=hx;exact⟨mid,hg _ _ h1,by rw[ho];exact h2⟩
 | kT ks vs bs c pos=>obtain⟨mid,l,h1,h2,h3,h4⟩:=hx;exact⟨mid,l,h1,h2,h3,by rw[ho];exact h4⟩
 | gone=>trivial
 | loop c ls p f=>
  obtain⟨h1,h2,h3⟩:=hx;refine⟨h1,by rw[ho];exact h2,λi hi=>?_⟩
  rcases rj g f i with e | e
  ·rw[e];exact hg _ _ (h3 i hi)
  ·rw[e,VS];trivial
 | ik N=>exact⟨hx.1,by rw[ho];exact hx.2⟩
def oF.symm{L M:Loc}(h:oF L M):oF M L:=⟨h.xx.symm,h.yx.symm,h.xy.symm,h.yy.symm,h.f.symm⟩
def tX.mono{b:En}{n m:Nat}{L:Loc}(h:tX b n L)(hn:n<=m):tX b m L:=⟨h.e,⟨h.x.1,by have:=h.x.2;omega⟩,⟨h.y.1,by have:=h.y.2;omega⟩,⟨h.f.1,by have:=h.f.2;omega⟩⟩
def dH(θ:Nat->Loc)(o:Nat)(L:Loc):Nat->Loc:=λp=>if p=o then L else θ p
def bp(θ:Nat->Loc)(o:Nat)(L:Loc):dH θ o L o=L:=t8 rfl
def aW(θ:Nat->Loc){o p:Nat}(L:Loc)(h:p≠o):dH θ o L p=θ p:=ul h
def RS.qg{h0:En}{h h':H}{S S':List SO}{o:Nat}{so':SO}{L':Loc}{g:SV->SV}(hR:RS θ ρ0 ρ h0 h S)(hnx:h.next<=h'.next)(hob0:∀j,h0.pr j->h'.aD.get j=h.aD.get j)(hfm0:∀j,h0.pf j->h'.bW.get j=h.bW.get j)(hlw:h0.lo<=h'.low)(hln:h'.low<=h'.next)(hL:tX h0 h'.next L')
 (hg:∀v x,VS θ ρ v x->VS (dH θ o L') ρ (g v) x)
 (hob:∀p so,p≠o->S[p]?=some so->so≠.gone->h'.aD.get (θ p).id=h.aD.get (θ p).id/\h'.bW.get (θ p).aX=h.bW.get (θ p).aX/\oF (θ p) L')
 (hrow:∀id ob,ρ id=some ob->h'.aD.get id=h.aD.get id/\id≠L'.x/\id≠L'.y)
 (hnew:gO (dH θ o L') ρ h' L' so') (hS:∀p,p≠o->S'[p]?=(S[p]?).map (kH g)) (hSo:S'[o]?=some so'):RS (dH θ o L') ρ0 ρ h0 h' S':=by
 have other:∀p so,p≠o->S'[p]?=some so->so≠.gone->∃s,S[p]?=some s/\s≠.gone/\so=kH g s:=by
  intro p so hp h1 h2;rw[hS p hp] at h1;obtain⟨s,hs,rfl⟩:=ai h1;exact⟨s,hs,rI h2,rfl⟩
 refine⟨hR.ok,be hR.nx hnx,λj hj=>(hob0 j hj).trans (hR.ob j hj),λj hj=>(hfm0 j hj).trans (hR.fm j hj),hlw,hln,?_,?_,?_,hR.gm⟩
 ·intro p so h1 h2;by_cases hp:p=o
  ·subst hp;rw[hSo] at h1;cases h1;rw[bp];exact⟨hL,hnew⟩
  ·obtain⟨s,hs,hsg,rfl⟩:=other p so hp h1 h2;rw[aW _ _ hp];obtain⟨k1,k2⟩:=hR.obj p s hs hsg;obtain⟨q1,q2,_⟩:=hob p s hp hs hsg;exact⟨k1.mono hnx,k2.map hg q1 q2⟩
 ·intro p q so so' hpq h1 h2 h3 h4;by_cases hp:p=o
  ·subst hp;obtain⟨s,hs,hsg,rfl⟩:=other q so' (λe=>hpq e.symm) h3 h4;rw[bp,aW _ _ (λe=>hpq e.symm)];exact(hob q s (λe=>hpq e.symm) hs hsg).2.2.symm
  ·obtain⟨s,hs,hsg,rfl⟩:=other p so hp h1 h2;rw[aW _ _ hp];by_cases hq:q=o
   ·subst hq;rw[bp];exact(hob p s hp hs hsg).2.2
   ·obtain⟨s',hs',hsg',rfl⟩:=other q so' hq h3 h4;rw[aW _ _ hq];exact hR.sep p q s s' hpq hs hsg hs' hsg'
 ·intro id ob hi;obtain⟨k1,k2,k3⟩:=hR.row id ob hi;obtain⟨q1,q2,q3⟩:=hrow id ob hi;refine⟨ay k1 hnx,by rw[q1];exact k2,?_⟩;intro p so h1 h2;by_cases hp:p=o
  ·subst hp;rw[bp];exact⟨q2,q3⟩
  ·obtain⟨s,hs,hsg,rfl⟩:=other p so hp h1 h2;rw[aW _ _ hp];exact k3 p s hs hsg
def aE{α:Type}{l:List α}{i:Nat}{x:α}(h:l[i]?=some x):i<l.length:=(List.getElem?_eq_some_iff.1 h).1
def jQ(o:Nat)(S:List SO)(p:Nat):(bZ o S)[p]?=(S[p]?).map (kH (aH o)):=by
 unfold bZ;rw[BS,a6]
def RS.new{h0:En}{h:H}{S:List SO}{so:SO}{ob:AO}(hR:RS θ ρ0 ρ h0 h S)(hob:(∃cs aS,so=.cells cs/\ob=.cells aS h.next/\bK θ ρ cs aS)\/(so=.map [] [] none/\ob=.map [] 0)):
 RS (dH θ S.length ⟨h.next,h.next,h.next,h.next⟩) ρ0 ρ h0 { h.lay h.next ob with next:=h.next+1 } (dG S so)/\∀v x,VS θ ρ v x->VS (dH θ S.length ⟨h.next,h.next,h.next,h.next⟩) ρ (aH S.length v) x:=by
 have hg:∀v x,VS θ ρ v x->VS (dH θ S.length ⟨h.next,h.next,h.next,h.next⟩) ρ (aH S.length v) x:=λv x hv=>ef (λp hp=>aW _ _ hp) hv;refine⟨?_,hg⟩;have hb:=hR.nx;have hpr:∀j,h0.pr j->j<h.next:=λj hj=>ay (hR.ok.pr j hj) hb;have hpf:∀j,h0.pf j->j<h.next:=λj hj=>ay (hR.ok.pf j hj) hb
 have hobj:∀j,j<h.next->({ h.lay h.next ob with next:=h.next+1 }:H).aD.get j=h.aD.get j:=by
  intro j hj
  rcases hob with⟨cs,aS,_,rfl,_⟩ | ⟨_,rfl⟩<;>exact aJ _ _ (by omega)
 have hfam:∀j,j<h.next->({ h.lay h.next ob with next:=h.next+1 }:H).bW.get j=h.bW.get j:=by
  intro j hj
  rcases hob with⟨cs,aS,_,rfl,_⟩ | ⟨_,rfl⟩
  ·exact aJ _ _ (by omega)
  ·rfl
 have hlow:({ h.lay h.next ob with next:=h.next+1 }:H).low=h.low:=by
  rcases hob with⟨cs,aS,_,rfl,_⟩ | ⟨_,rfl⟩<;>rfl
 refine hR.qg (g:=aH S.length) (so':=killO S.length so) (by show h.next<=h.next+1;omega) (λj hj=>hobj j (hpr j hj)) (λj hj=>hfam j (hpf j hj)) (by rw[hlow];exact hR.lw) (by rw[hlow];exact ct hR.ln) ⟨.inl rfl,⟨λhj=>cf _ (hpr _ hj),b0 _⟩,⟨λhj=>cf _ (hpr _ hj),b0 _⟩,⟨λhj=>cf _ (hpf _ hj),b0 _⟩⟩ hg ?_ ?_ ?_ ?_ ?_
 ·intro p s hp hs hsg;obtain⟨⟨k1,k2,k3,k4⟩,_⟩:=hR.obj p s hs hsg;refine⟨hobj _ (by rcases k1 with e | e<;>omega),hfam _ k4.2,⟨?_,?_,?_,?_,?_⟩⟩<;>(simp only;omega)
 ·intro id ob' hi;have:=(hR.row id ob' hi).1;exact⟨hobj id this,by simp only;omega,by simp only;omega⟩
 ·rcases hob with⟨cs,aS,rfl,rfl,hv⟩ | ⟨rfl,rfl⟩
  ·exact⟨aS,bC _ _ _,hv.map hg,bC _ _ _⟩
  ·exact⟨[],0,bC _ _ _,⟨rfl,⟨List.nodup_nil,λe he=>by simp at he⟩,λp hp=>by cases hp⟩,by rw[bw,bw,aI]⟩
 ·intro p hp;unfold dG
  have hl:(bZ S.length S).length=S.length:=by unfold bZ;rw[a7]
  rw[co];split
  ·exact jQ _ _ _
  ·rename_i hlt;rw[hl] at hlt ⊢;have:S[p]?=none:=bb (by omega);rw[this,bb (by simp;omega)];rfl
 ·unfold dG
  have hl:(bZ S.length S).length=S.length:=by unfold bZ;rw[a7]
  rw[List.getElem?_append_right (by omega),hl,Nat.sub_self];rfl
def iN{h:H}{id aX x y:Nat}(hf:h.bW.get aX=some (x,y)){j:Nat}(hj:j≠aX):(h.alone id aX).bW.get j=h.bW.get j:=by
 unfold H.alone;rw[hf];simp only;cases beq x id&&beq y id
 ·exact aJ _ _ hj
 ·rfl
def gV{a b c:Nat}(h1:c<=a)(h2:c<=b):c<=dF a b:=by
 unfold dF;cases ble a b
 ·exact h2
 ·exact h1
def qV{h:H}{id aX x y b:Nat}(hf:h.bW.get aX=some (x,y))(hx:b<=x)(hy:b<=y)(hb:b<=h.low)(hn:h.low<=h.next):b<=(h.alone id aX).low/\(h.alone id aX).low<=h.next:=by
 unfold H.alone;rw[hf];simp only;cases beq x id&&beq y id
 ·exact⟨gV hb (gV hx hy),be (cj _ _).1 hn⟩
 ·exact⟨hb,hn⟩
def RS.store{h0:En}{h:H}{S:List SO}{o:Nat}{cs vs:List SV}{off:Nat}{xs:List AV}(hR:RS θ ρ0 ρ h0 h S)(hS:S[o]?=some (.cells cs))(hv:bK θ ρ vs xs)(hone:xs.all fz=true)(hle:off+vs.length<=cs.length):
 ∃h',h.store (θ o).id off xs=some h'/\RS (dH θ o ⟨(θ o).id,(θ o).aX,(θ o).id,(θ o).id⟩) ρ0 ρ h0 h' (S.set o (.cells (cs.take off++(vs++cs.drop (off+vs.length)))))/\∀v x,VS θ ρ v x->VS (dH θ o ⟨(θ o).id,(θ o).aX,(θ o).id,(θ o).id⟩) ρ v x:=by
 have hg:∀v x,VS θ ρ v x->VS (dH θ o ⟨(θ o).id,(θ o).aX,(θ o).id,(θ o).id⟩) ρ v x:=λv x hv=>hv.ids λp=>by
  by_cases hp:p=o
  ·subst hp;rw[bp]
  ·rw[aW _ _ hp]
 obtain⟨⟨k1,k2,k3,k4⟩,aS,q1,q2,q3⟩:=hR.obj o _ hS (λh=>by cases h);have a2:(h.alone (θ o).id (θ o).aX).next=h.next:=(ku (Z:=0) (id:=(θ o).id) q3 (bh _) (bh _) (bh _)).2;have px:∀j,h0.pr j->j≠(θ o).x:=λj hj e=>k2.1 (e▸hj);have py:∀j,h0.pr j->j≠(θ o).y:=λj hj e=>k3.1 (e▸hj)
 have pi:∀j,h0.pr j->j≠(θ o).id:=λj hj=>by rcases k1 with e | e<;>rw[e];exact px j hj;exact py j hj
 have pfm:∀j,h0.pf j->j≠(θ o).aX:=λj hj e=>k4.1 (e▸hj)
 have lid:h0.lo<=(θ o).id:=by rcases k1 with e | e<;>rw[e];exact hR.ok.lo _ k2.1;exact hR.ok.lo _ k3.1
 have hidn:(θ o).id<h.next:=by rcases k1 with e | e<;>rw[e];exact k2.2;exact k3.2
 have al:=qV (id:=(θ o).id) q3 (hR.ok.lo _ k2.1) (hR.ok.lo _ k3.1) hR.lw hR.ln;have hl:=q2.length;have hlx:=hv.length;refine⟨{ h.alone (θ o).id (θ o).aX with aD:=(h.alone (θ o).id (θ o).aX).aD.put (θ o).id (some (.cells (aS.take off++(xs++aS.drop (off+xs.length))) (θ o).aX)),low:=dF (h.alone (θ o).id (θ o).aX).low (θ o).id },?_,?_,hg⟩
 ·unfold H.store;rw[q1];simp only;rw[cP (show off+xs.length<=aS.length by omega),hone];rfl
 ·refine hR.qg (g:=λv=>v) (so':=.cells (cs.take off++(vs++cs.drop (off+vs.length)))) (by show h.next<=(h.alone _ _).next;omega) (λj hj=>?_) (λj hj=>iN q3 (pfm j hj)) (gV al.1 lid) ?_ ⟨.inl rfl,⟨λhj=>pi _ hj rfl,?_⟩,⟨λhj=>pi _ hj rfl,?_⟩,⟨k4.1,?_⟩⟩ hg ?_ ?_ ?_ ?_ ?_
  ·show(Tr.put _ _ _).get j=_;rw[aJ _ _ (pi j hj)];exact fh q3 (px j hj) (py j hj)
  ·show dF (h.alone _ _).low _<=(h.alone _ _).next;rw[a2];exact be (cj _ _).1 al.2
  ·show(θ o).id<(h.alone _ _).next;rw[a2];exact hidn
  ·show(θ o).id<(h.alone _ _).next;rw[a2];exact hidn
  ·show(θ o).aX<(h.alone _ _).next;rw[a2];exact k4.2
  ·intro p s hp hs hsg;have sp:=hR.sep p o s _ hp hs hsg hS (λh=>by cases h);obtain⟨⟨j1,j2,j3,j4⟩,_⟩:=hR.obj p s hs hsg
   have e1:(θ p).id≠(θ o).x:=by rcases j1 with e | e<;>rw[e];exact sp.xx;exact sp.yx
   have e2:(θ p).id≠(θ o).y:=by rcases j1 with e | e<;>rw[e];exact sp.xy;exact sp.yy
   refine⟨?_,iN q3 sp.f,⟨?_,?_,?_,?_,sp.f⟩⟩
   ·show(Tr.put _ _ _).get _=_;rw[aJ _ _ (by rcases k1 with e | e<;>rw[e]<;>assumption)];exact fh q3 e1 e2
   ·simp only;rcases k1 with e | e<;>rw[e];exact sp.xx;exact sp.xy
   ·simp only;rcases k1 with e | e<;>rw[e];exact sp.xx;exact sp.xy
   ·simp only;rcases k1 with e | e<;>rw[e];exact sp.yx;exact sp.yy
   ·simp only;rcases k1 with e | e<;>rw[e];exact sp.yx;exact sp.yy
  ·intro id ob hi;obtain⟨_,_,r3⟩:=hR.row id ob hi;obtain⟨e1,e2⟩:=r3 o _ hS (λh=>by cases h)
   have e3:id≠(θ o).id:=by rcases k1 with e | e<;>rw[e]<;>assumption
   refine⟨?_,e3,e3⟩;show(Tr.put _ _ _).get _=_;rw[aJ _ _ e3];exact fh q3 e1 e2
  ·refine⟨_,bC _ _ _,?_,qU q3⟩
   have hw:bK θ ρ (cs.take off++(vs++cs.drop (off+vs.length))) (aS.take off++(xs++aS.drop (off+xs.length))):=by
    rw[hlx];exact(q2.take off).app (hv.app (q2.drop (off+vs.length)))
   have:=hw.map hg;rw[List.map_id'] at this;exact this
  ·intro p hp;rw[bd (λe=>hp e.symm)]
   cases S[p]? with
   | none=>rfl
   | some s=>rw[aj,lF]
  ·rw[a8 (aE hS)]
def RS.Ek{h0:En}{h:H}{S:List SO}{o:Nat}{ks ks':List AV}{vs vs':List SV}{l':List (AV×AV×Nat)}{c':Nat}{b b':Option (List Nat×Nat)}(hR:RS θ ρ0 ρ h0 h S)(hS:S[o]?=some (.map ks vs b))(h1:CK l' c' ks' b')(h2:bK θ ρ vs' (l'.map (·.2.1))):
 RS θ ρ0 ρ h0 (h.set (θ o).id (.map l' c')) (S.set o (.map ks' vs' b')):=by
 obtain⟨⟨k1,k2,k3,k4⟩,l,c,q1,q2,q3⟩:=hR.obj o _ hS (λh=>by cases h)
 have heq:dH θ o (θ o)=θ:=by
  funext p;unfold dH;split
  ·rename_i e;rw[e]
  ·rfl
 have hg:∀v x,VS θ ρ v x->VS (dH θ o (θ o)) ρ v x:=λv x hv=>by rw[heq];exact hv
 have pi:∀j,h0.pr j->j≠(θ o).id:=λj hj e=>by rcases k1 with e' | e'<;>rw[e'] at e;exact k2.1 (e▸hj);exact k3.1 (e▸hj)
 have lid:h0.lo<=(θ o).id:=by rcases k1 with e | e<;>rw[e];exact hR.ok.lo _ k2.1;exact hR.ok.lo _ k3.1
 have:=hR.qg (g:=λv=>v) (h':=h.set (θ o).id (.map l' c')) (S':=S.set o (.map ks' vs' b')) (so':=.map ks' vs' b') (L':=θ o) (b9 _) (λj hj=>aJ _ _ (pi j hj)) (λj hj=>rfl) (gV hR.lw lid) (be (cj _ _).1 hR.ln) ⟨k1,k2,k3,k4⟩ hg ?_ ?_ ?_ ?_ ?_
 ·rw[heq] at this;exact this
 ·intro p s hp hs hsg;have sp:=hR.sep p o s _ hp hs hsg hS (λh=>by cases h);obtain⟨⟨j1,j2,j3,j4⟩,_⟩:=hR.obj p s hs hsg;refine⟨aJ _ _ ?_,rfl,sp⟩
  rcases j1 with e | e<;>rcases k1 with e' | e'<;>rw[e,e']
  ·exact sp.xx
  ·exact sp.xy
  ·exact sp.yx
  ·exact sp.yy
 ·intro id ob hi;obtain⟨_,_,r3⟩:=hR.row id ob hi;obtain⟨e1,e2⟩:=r3 o _ hS (λh=>by cases h);exact⟨aJ _ _ (by rcases k1 with e | e<;>rw[e]<;>assumption),e1,e2⟩
 ·rw[heq];exact⟨l',c',bC _ _ _,h1,h2⟩
 ·intro p hp;rw[bd (λe=>hp e.symm)]
  cases S[p]? with
  | none=>rfl
  | some s=>rw[aj,lF]
 ·rw[a8 (aE hS)]
def RS.fork{h0:En}{h:H}{S:List SO}{o n:Nat}{cs vs:List SV}{xs aS:List AV}(hR:RS θ ρ0 ρ h0 h S)(hS:S[o]?=some (.cells cs))(hv:bK θ ρ vs xs)(has:h.aD.get (θ o).id=some (.cells aS (θ o).aX))(hle:n<=cs.length):
 (h.alone (θ o).id (θ o).aX).next=h.next/\RS (dH θ o ⟨h.next,(θ o).aX,(θ o).id,h.next⟩) ρ0 ρ h0 (h.cK (θ o).id (θ o).aX (aS.take n) ((aS.drop 0).take n++xs)) ((bZ o S).set o (killO o (.cells (cs.take n++vs))))/\∀v x,VS θ ρ v x->VS (dH θ o ⟨h.next,(θ o).aX,(θ o).id,h.next⟩) ρ (aH o v) x:=by
 have hg:∀v x,VS θ ρ v x->VS (dH θ o ⟨h.next,(θ o).aX,(θ o).id,h.next⟩) ρ (aH o v) x:=λv x hv=>ef (λp hp=>aW _ _ hp) hv;obtain⟨⟨k1,k2,k3,k4⟩,as',q1,q2,q3⟩:=hR.obj o _ hS (λh=>by cases h);rw[has] at q1;cases q1;have a2:(h.alone (θ o).id (θ o).aX).next=h.next:=(ku (Z:=0) (id:=(θ o).id) q3 (bh _) (bh _) (bh _)).2;have px:∀j,h0.pr j->j≠(θ o).x:=λj hj e=>k2.1 (e▸hj);have py:∀j,h0.pr j->j≠(θ o).y:=λj hj e=>k3.1 (e▸hj)
 have pi:∀j,h0.pr j->j≠(θ o).id:=λj hj=>by rcases k1 with e | e<;>rw[e];exact px j hj;exact py j hj
 have pfm:∀j,h0.pf j->j≠(θ o).aX:=λj hj e=>k4.1 (e▸hj)
 have lid:h0.lo<=(θ o).id:=by rcases k1 with e | e<;>rw[e];exact hR.ok.lo _ k2.1;exact hR.ok.lo _ k3.1
 have hidn:(θ o).id<h.next:=by rcases k1 with e | e<;>rw[e];exact k2.2;exact k3.2
 have al:=qV (id:=(θ o).id) q3 (hR.ok.lo _ k2.1) (hR.ok.lo _ k3.1) hR.lw hR.ln;have hid:(θ o).id<h.next:=hidn;have hb:=hR.nx;have hprn:∀j,h0.pr j->j<h.next:=λj hj=>ay (hR.ok.pr j hj) hb;refine⟨a2,?_,hg⟩;refine hR.qg (g:=aH o) (so':=killO o (.cells (cs.take n++vs))) (by show h.next<=(h.alone _ _).next+1;omega) (λj hj=>?_) (λj hj=>?_) ?_ ?_ ⟨.inr rfl,⟨λhj=>pi _ hj rfl,?_⟩,⟨λhj=>cf _ (hprn _ hj),?_⟩,⟨k4.1,?_⟩⟩ hg ?_ ?_ ?_ ?_ ?_
 ·simp only[H.cK];rw[a2,aJ _ _ (by have:=hprn j hj;omega),aJ _ _ (pi j hj)];exact fh q3 (px j hj) (py j hj)
 ·simp only[H.cK];rw[aJ _ _ (pfm j hj)];exact iN q3 (pfm j hj)
 ·simp only[H.cK];exact gV al.1 lid
 ·simp only[H.cK];rw[a2];exact ct (be (cj _ _).1 al.2)
 ·simp only[H.cK,a2];omega
 ·simp only[H.cK,a2];omega
 ·simp only[H.cK,a2];have:=k4.2;omega
 ·intro p s hp hs hsg;have sp:=hR.sep p o s _ hp hs hsg hS (λh=>by cases h);obtain⟨⟨j1,j2,j3,j4⟩,_⟩:=hR.obj p s hs hsg
  have e1:(θ p).id≠(θ o).x:=by rcases j1 with e | e<;>rw[e];exact sp.xx;exact sp.yx
  have e2:(θ p).id≠(θ o).y:=by rcases j1 with e | e<;>rw[e];exact sp.xy;exact sp.yy
  have e3:(θ p).id<h.next:=by rcases j1 with e | e<;>omega
  refine⟨?_,?_,⟨?_,?_,?_,?_,sp.f⟩⟩
  ·simp only[H.cK];rw[a2,aJ _ _ (by omega),aJ _ _ (by rcases k1 with e | e<;>rw[e]<;>assumption)];exact fh q3 e1 e2
  ·simp only[H.cK];rw[aJ _ _ sp.f];exact iN q3 sp.f
  ·simp only;rcases k1 with e | e<;>rw[e];exact sp.xx;exact sp.xy
  ·simp only;omega
  ·simp only;rcases k1 with e | e<;>rw[e];exact sp.yx;exact sp.yy
  ·simp only;omega
 ·intro id ob hi;obtain⟨r1,_,r3⟩:=hR.row id ob hi;obtain⟨e1,e2⟩:=r3 o _ hS (λh=>by cases h)
  have e3:id≠(θ o).id:=by rcases k1 with e | e<;>rw[e]<;>assumption
  refine⟨?_,e3,by simp only;omega⟩;simp only[H.cK];rw[a2,aJ _ _ (by omega),aJ _ _ e3];exact fh q3 e1 e2
 ·refine⟨_,?_,((q2.take n).app hv).map hg,?_⟩
  ·simp only[H.cK];rw[a2,bC,b8]
  ·simp only[H.cK];rw[bC,a2]
 ·intro p hp;rw[bd (λe=>hp e.symm)];exact jQ _ _ _
 ·rw[a8 (by unfold bZ;rw[a7];exact aE hS)]
end
section
variable {θ θ':Nat->Loc} {ρ ρ0:ff} {P:Program}
def vH{h0:En}{h:H}{S:List SO}(hR:RS θ ρ0 ρ h0 h S){id:Nat}{row:List AV}(hr:rowR ρ id=some row):kg h.aD id=some row:=by
 unfold rowR at hr
 cases ho:ρ id with
 | none=>rw[ho] at hr;cases hr
 | some ob=>
  have:=(hR.row id ob ho).2.1;rw[ho] at hr;unfold kg;rw[this]
  cases ob<;>first | exact hr | (cases hr;done)
def vb{h0:En}{h:H}{S:List SO}(hR:RS θ ρ0 ρ h0 h S){tt:TypeId}{a:SV}{x:AV}(ha:VS θ ρ a x){v:SV}(hl:loadS P S tt a=some v):∃y,sI P h tt (some x)=some y/\VS θ ρ v y:=by
 unfold loadS at hl;split at hl
 ·rename_i o off;rw[VS] at ha;subst ha;split at hl
  ·rename_i cs hS;obtain⟨_,aS,q1,q2,_⟩:=hR.obj o _ hS (λh=>by cases h);obtain⟨y,k1,k2⟩:=lK q2 hl;exact⟨y,by rw[rE,rD (aS:=aS) (by unfold kg;rw[q1];rfl)];exact k1,k2⟩
  ·cases hl
 ·rename_i cs;rw[VS,GS] at ha;obtain⟨id,off,row,r,rfl,h2,h3,h4⟩:=ha;obtain⟨y,k1,k2⟩:=lK (h4.vs (θ:=θ)) hl;refine⟨y,?_,k2⟩;rw[rE,rD (vH hR h2)];have:=AY h3 k1;rw[Nat.add_zero] at this;exact this
 ·cases hl
def A3{h0:En}{h:H}{S S':List SO}(hR:RS θ ρ0 ρ h0 h S){tt:TypeId}{a v:SV}{x y:AV}(ha:VS θ ρ a x)(hv:VS θ ρ v y)(hs:pM P S tt a v=some S'):
 ∃h' θ',sW P h tt (some x) (some y)=some h'/\RS θ' ρ0 ρ h0 h' S'/\∀v x,VS θ ρ v x->VS θ' ρ v x:=by
 unfold pM at hs;split at hs
 ·rename_i o off;rw[VS] at ha;subst ha;split at hs
  ·rename_i cs hS;obtain⟨⟨n,_⟩,hq,hs⟩:=bind_eq_some_iff.1 hs;obtain⟨vs,hvs,hs⟩:=bind_eq_some_iff.1 hs;obtain⟨⟨b1,b2,b3⟩,hs⟩:=aZ hs;cases hs;have hn:=(mn hq).2;simp only at b1 b2 hn;have kv:=mE hv hvs;subst b1;obtain⟨h',e1,e2,e3⟩:=hR.store hS kv (iq kv b3) b2;refine⟨h',_,?_,e2,e3⟩;rw[xW];unfold H.storeVar;rw[hn,ac,kv.length,ad,ab];exact e1
  ·cases hs
 ·cases hs
def Dh{P:Program}{t:Tr AV}{h:H}{nm:String}{first cap:Array Operand}:cJ P t h (.makeFunc (.method nm) first cap)=((nO t first.toList).bind λa=>(nO t cap.toList).map λb=>AV.fn (.method nm) a b).map λv=>[(some v,h)]:=rfl
def C5{v w:SV}{x:AV}(hv:VS θ ρ v x)(h:nilS P v=some w):iE P x=some x/\w=v:=by
 cases v with
 | ptr o off=>simp only[nilS,Option.some.injEq] at h;rw[VS] at hv;subst hv;exact⟨rfl,h.symm⟩
 | ip cs=>simp only[nilS,Option.some.injEq] at h;rw[VS,GS] at hv;obtain⟨id,off,row,r,rfl,_⟩:=hv;exact⟨rfl,h.symm⟩
 | fn g a b=>simp only[nilS,Option.some.injEq] at h;rw[VS] at hv;obtain⟨xs,ys,rfl,_⟩:=hv;exact⟨rfl,h.symm⟩
 | sl n e cs=>simp only[nilS,Option.some.injEq] at h;rw[VS,GS] at hv;rcases hv with⟨_,_,o,e',c,rfl,_,_⟩ | ⟨id,off,cap,row,rfl,_⟩<;>exact⟨rfl,h.symm⟩
 | buf o n e c=>simp only[nilS,Option.some.injEq] at h;rw[VS] at hv;subst hv;exact⟨rfl,h.symm⟩
 | sub o off n e c=>simp only[nilS,Option.some.injEq] at h;rw[VS] at hv;subst hv;exact⟨rfl,h.symm⟩
 | e0 e=>simp only[nilS,Option.some.injEq] at h;rw[VS] at hv;obtain⟨o,e',rfl,_⟩:=hv;exact⟨rfl,h.symm⟩
 | a u=>
  unfold nilS at h;split at h
  case h_8 hu=>
   cases hu;obtain⟨g,hg,rfl⟩:=ai h;rw[VS] at hv;subst hv;refine⟨?_,rfl⟩;unfold iE;simp only[hg,aj]
  all_goals first | (cases h;done) | (rename_i hu;cases hu;done)
 | _=>simp[nilS] at h
def Ay{a b:Nat}(h:a<b):Nat.blt a b=true:=by rw[Nat.blt_eq];exact h
def zz{cs:List SV}{x:AV}{k:Nat}(hv:GS ρ (.ip cs) x)(hk:k<=cs.length):∃id off row,x=.ptr (some (id,off))/\rowR ρ id=some row/\GS ρ (.ip (cs.drop k)) (.ptr (some (id,off+k))):=by
 rw[GS] at hv;obtain⟨id,off,row,r,rfl,h2,h3,h4⟩:=hv;refine⟨id,off,row,rfl,h2,?_⟩;have hl:=h4.length;rw[cl,ci] at hl;rw[GS];refine⟨id,off+k,row,r-k,rfl,h2,by omega,?_⟩;have:=h4.drop k;rw[cc,b7] at this;exact this
def ql{s:TypeId}{v w:SV}{x:AV}{fl:Nat}(hv:VS θ ρ v x)(h:gr P s v fl=some w):∃y,ew P s x fl=some y/\VS θ ρ w y:=by
 unfold gr at h;obtain⟨q,hq,h⟩:=bind_eq_some_iff.1 h;obtain⟨hn0,h⟩:=aZ h;obtain⟨fs,fd,hu,_,hfd,hn,e1,_⟩:=mK hq
 have hb:beq q.2.2 0=false:=by
  cases hb:beq q.2.2 0
  ·rfl
  ·exact t7 (bD hb) hn0
 cases v with
 | ptr o off=>
  simp only at h;cases h;rw[VS] at hv;subst hv;unfold ew;rw[hu];simp only;rw[hfd,ac,hn,ac,hb,ah,e1];exact⟨_,rfl,by rw[VS]⟩
 | ip cs=>
  simp only at h;obtain⟨hk,h⟩:=aZ h;cases h;rw[VS] at hv;obtain⟨id,off,row,rfl,_,h2⟩:=zz hv hk;unfold ew;rw[hu];simp only;rw[hfd,ac,hn,ac,hb,ah,e1];exact⟨_,rfl,by rw[VS];exact h2⟩
 | _=>simp at h
def AM{s:TypeId}{v w:SV}{x:AV}{fl:Nat}(hv:VS θ ρ v x)(h:mI P s v fl=some w):∃y,mH P s x fl=some y/\VS θ ρ w y:=by
 cases v with
 | ag cs=>
  simp only[mI] at h;rw[VS] at hv;obtain⟨aS,rfl,hv⟩:=hv;obtain⟨q,hq,h⟩:=bind_eq_some_iff.1 h;obtain⟨fs,fd,hu,_,hfd,hn,e1,e2⟩:=mK hq;obtain⟨y,k1,k2⟩:=lK hv h;unfold mH;rw[hu];simp only;rw[hfd,ac,e1,e2];exact⟨y,k1,k2⟩
 | _=>simp[mI] at h
def sL{v:SV}{x:AV}{i:Nat}(hv:VS θ ρ v x)(h:xJ v=some i):bN x=some i:=by
 cases v with
 | a v=>rw[VS] at hv;subst hv;exact h
 | _=>simp[xJ] at h
def qn{t:TypeId}{v w iv:SV}{x ix:AV}(hv:VS θ ρ v x)(hi:VS θ ρ iv ix)(h:indexAddrS P t v iv=some w):∃y,fk P t x ix=some y/\VS θ ρ w y:=by
 unfold indexAddrS at h;obtain⟨i,hin,h2⟩:=bind_eq_some_iff.1 h;clear h;unfold fk;rw[sL hi hin,ac]
 cases har:DD P t with
 | some q=>
  rw[har] at h2;simp only at h2;obtain⟨hu,hs⟩:=uf har;obtain⟨hlt,h⟩:=aZ h2;rw[hu];have hlb:blt i q.1=true:=Ay hlt
  cases v with
  | ptr o off=>
   simp only at h;cases h;rw[VS] at hv;subst hv;simp only;rw[hs,ac,hlb,ab];exact⟨_,rfl,by rw[VS]⟩
  | ip cs=>
   simp only at h;obtain⟨hk,h⟩:=aZ h;cases h;rw[VS] at hv;obtain⟨id,off,row,rfl,_,h2⟩:=zz hv hk;simp only;rw[hs,ac,hlb,ab];exact⟨_,rfl,by rw[VS];exact h2⟩
  | _=>simp at h
 | none=>
  rw[har] at h2;simp only at h2;obtain⟨q,hq,h⟩:=bind_eq_some_iff.1 h2;obtain⟨hu,hs⟩:=dx hq;obtain⟨e,s⟩:=q;simp only at hu hs h;rw[hu]
  cases v with
  | sl n es cs=>
   simp only at h;obtain⟨⟨hlt,hse⟩,h⟩:=aZ h;cases h;subst hse;have hlb:blt i n=true:=Ay hlt;rw[VS,GS] at hv
   rcases hv with⟨h1,_⟩ | ⟨id,off,cap,row,rfl,h2,h3,h4⟩
   ·omega
   ·simp only;rw[hs,ac,hlb,ad,ap,ab];refine⟨_,rfl,?_⟩
    have hms:i*s+s<=n*s:=by
     have:=bc s (show i+1<=n by omega);rw[d4] at this;exact this
    rw[VS,GS];refine⟨id,off+i*s,row,s,rfl,h2,by omega,?_⟩;have:=(h4.drop (i*s)).take s;rw[cc,b7,cd,bi (by omega)] at this;exact this
  | buf o n es c=>
   simp only at h;obtain⟨⟨hlt,hse⟩,h⟩:=aZ h;cases h;subst hse;have hlb:blt i n=true:=Ay hlt;rw[VS] at hv;subst hv;simp only;rw[hs,ac,hlb,ad,ap,ab];exact⟨_,rfl,by rw[VS,cb]⟩
  | sub o off n es c=>
   simp only at h;obtain⟨⟨hlt,hse⟩,h⟩:=aZ h;cases h;subst hse;have hlb:blt i n=true:=Ay hlt;rw[VS] at hv;subst hv;simp only;rw[hs,ac,hlb,ad,ap,ab];exact⟨_,rfl,by rw[VS]⟩
  | _=>simp at h
def AN{t:TypeId}{v w iv:SV}{x ix:AV}(hv:VS θ ρ v x)(hi:VS θ ρ iv ix)(h:indexS P t v iv=some w):∃y,mM P t x ix=some y/\VS θ ρ w y:=by
 unfold indexS at h;obtain⟨i,hin,h2⟩:=bind_eq_some_iff.1 h;clear h;unfold mM;rw[sL hi hin,ac]
 cases v with
 | ag cs=>
  simp only at h2;obtain⟨q,hq,h⟩:=bind_eq_some_iff.1 h2;obtain⟨hu,hs⟩:=uf hq;obtain⟨hlt,h⟩:=aZ h;rw[hu];rw[VS] at hv;obtain⟨aS,rfl,hv⟩:=hv;simp only;rw[hs,ac,Ay hlt,ab];exact lK hv h
 | a v=>
  cases v with
  | str s=>
   simp only at h2
   cases hk:dX P t with
   | str=>
    rw[hk] at h2;simp only at h2;rw[pk hk];rw[VS] at hv;subst hv;simp only;obtain⟨b,hb,rfl⟩:=ai h2;rw[hb];exact⟨_,rfl,by rw[VS]⟩
   | _=>rw[hk] at h2;cases h2
  | _=>simp at h2
 | _=>simp at h2
def A2{h:H}{t:TypeId}{v w:SV}{x:AV}{lo hi mx:Option AV}(hv:VS θ ρ v x)(h1:dr P t v lo hi mx=some w):∃y,mW P h t x lo hi mx=some y/\VS θ ρ w y:=by
 unfold dr at h1;unfold mW;split at h1
 ·rename_i s hk;rw[pk hk];rw[VS] at hv;subst hv
  cases mx with
  | some _=>cases h1
  | none=>
   simp only at h1 ⊢;obtain⟨b,hb,rfl⟩:=ai h1;rw[hb];exact⟨_,rfl,by rw[VS]⟩
 ·rename_i n es cs hk
  cases mx with
  | some m=>
   simp only at h1;obtain⟨⟨e,s⟩,hq,h1⟩:=bind_eq_some_iff.1 h1;obtain⟨hu,hs⟩:=dx hq;simp only at hu hs h1;rw[hu];obtain⟨⟨rfl,h2,h3,h4⟩,h5⟩:=aZ h1;cases h5;subst h4;obtain⟨hv0,rfl,h2⟩:=bind_eq_some_iff.1 h2
   have hb:∀cap,br n cap none (some hv0) (some m)=some (0,0,some 0):=by
    intro cap;unfold br;simp only;have h2':bN hv0=some 0:=h2
    have hf:fitsA n cap 0=true:=by unfold fitsA;rw[cP (bh n)];rfl
    rw[h3,ac,hf,ab,h2'];rfl
   rw[VS,GS] at hv
   rcases hv with⟨rfl,rfl,o,e',c,rfl,ho,hoe⟩ | ⟨id,off,cap,row,rfl,h6,h7,h8⟩
   ·simp only;rw[hs,ac,hb,ac];simp only
    cases o with
    | none=>exact⟨_,rfl,by rw[VS];exact⟨none,0,rfl,λh=>t7 rfl h⟩⟩
    | some q=>
     obtain⟨id,off⟩:=q;rw[hoe (by simp)];simp only;rw[ad,ab];exact⟨_,rfl,by rw[VS];exact⟨_,_,rfl,λ_=>rfl⟩⟩
   ·simp only;rw[hs,ac,hb,ac];simp only;rw[ad,ab];exact⟨_,rfl,by rw[VS];exact⟨_,_,rfl,λ_=>rfl⟩⟩
  | none=>
   simp only at h1;obtain⟨⟨e,s⟩,hq,h1⟩:=bind_eq_some_iff.1 h1;obtain⟨hu,hs⟩:=dx hq;simp only at hu hs;rw[hu];obtain⟨⟨l,hh,m⟩,hb,h1⟩:=bind_eq_some_iff.1 h1;obtain⟨hse,h1⟩:=aZ h1;cases h1;simp only at hse;subst hse
   have hbd:∀cap,(br n cap lo hi none=some (l,hh,cap))/\l<=hh/\hh<=n:=by
    intro cap;unfold br at hb ⊢;simp only at hb ⊢;obtain⟨q,hq,hb⟩:=bind_eq_some_iff.1 hb
    have hq2:gT n cap hi=some q/\q<=n:=by
     cases hi with
     | none=>simp only[gT,Option.some.injEq] at hq ⊢;exact⟨hq,by omega⟩
     | some hv=>
      simp only[gT] at hq ⊢;obtain⟨k,hk,hq⟩:=bind_eq_some_iff.1 hq;obtain⟨hf,hq⟩:=aw hq;cases hq;simp only[fitsA,d2] at hf;rw[hk,ac];unfold fitsA;rw[hf,cp,ab];exact⟨rfl,eu hf⟩
    rw[hq2.1,ac]
    cases lo with
    | none=>simp only[Option.some.injEq,Prod.mk.injEq] at hb ⊢;obtain⟨rfl,rfl,_⟩:=hb;exact⟨by simp,bh _,hq2.2⟩
    | some lv=>
     simp only at hb ⊢;obtain⟨k,hk,hb⟩:=bind_eq_some_iff.1 hb;obtain⟨hf,hb⟩:=aw hb;simp only[Option.some.injEq,Prod.mk.injEq] at hb;obtain⟨rfl,rfl,_⟩:=hb;rw[hk,ac,hf,ab];exact⟨by simp,eu hf,hq2.2⟩
   rw[VS,GS] at hv
   rcases hv with⟨rfl,rfl,o,e',c,rfl,ho,hoe⟩ | ⟨id,off,cap,row,rfl,h2,h3,h4⟩
   ·obtain⟨b1,b2,b3⟩:=hbd c
    have hl0:l=0:=by omega
    have hh0:hh=0:=by omega
    subst hl0;subst hh0;simp only;rw[hs,ac,b1,ac];simp only
    cases o with
    | none=>
     exact⟨_,rfl,by rw[VS,GS];exact .inl ⟨rfl,by simp,none,0,some 0,rfl,λ_=>rfl,λh=>t7 rfl h⟩⟩
    | some q=>
     obtain⟨id,off⟩:=q;rw[hoe (by simp)];simp only;rw[ad,ab];exact⟨_,rfl,by rw[VS,GS];exact .inl ⟨rfl,by simp,_,_,_,rfl,λh=>(by cases h),λ_=>rfl⟩⟩
   ·obtain⟨b1,b2,b3⟩:=hbd cap;simp only;rw[hs,ac,b1,ac];simp only;rw[ad,ab];refine⟨_,rfl,?_⟩;rw[VS,GS];have m1:l*s<=hh*s:=bc s b2;have m2:hh*s<=n*s:=bc s b3;refine .inr ⟨id,off+l*s,isSub cap l,row,rfl,h2,by rw[Nat.sub_mul];omega,?_⟩;have:=(h4.drop (l*s)).take ((hh-l)*s);rw[cc,b7,cd,bi (by rw[Nat.sub_mul];omega)] at this;exact this
 ·rename_i o n es c hk
  cases mx with
  | some _=>cases h1
  | none=>
   simp only at h1;obtain⟨⟨e,s⟩,hq,h1⟩:=bind_eq_some_iff.1 h1;obtain⟨hu,hs⟩:=dx hq;simp only at hu hs;rw[hu];obtain⟨⟨l,hh,m⟩,hb,h1⟩:=bind_eq_some_iff.1 h1;obtain⟨hse,h1⟩:=aZ h1;cases h1;simp only at hse;subst hse;rw[VS] at hv;subst hv;simp only;rw[hs,ac,hb,ac];simp only;rw[ad,ab]
   cases lo with
   | none=>
    have hl0:l=0:=by
     unfold br at hb;simp only at hb;obtain⟨q,hq,hb⟩:=bind_eq_some_iff.1 hb;simp only[Option.some.injEq,Prod.mk.injEq] at hb;exact hb.1.symm
    subst hl0;exact⟨_,rfl,by rw[VS,b6]⟩
   | some _=>exact⟨_,rfl,by rw[VS,cb]⟩
 ·rename_i o off n es c hk
  cases mx with
  | some _=>cases h1
  | none=>
   simp only at h1;obtain⟨⟨e,s⟩,hq,h1⟩:=bind_eq_some_iff.1 h1;obtain⟨hu,hs⟩:=dx hq;simp only at hu hs;rw[hu];obtain⟨⟨l,hh,m⟩,hb,h1⟩:=bind_eq_some_iff.1 h1;obtain⟨hse,h1⟩:=aZ h1;cases h1;simp only at hse;subst hse;rw[VS] at hv;subst hv;simp only;rw[hs,ac,hb,ac];simp only;rw[ad,ab];exact⟨_,rfl,by rw[VS]⟩
 ·rename_i hk;obtain⟨⟨e,s⟩,hq,h1⟩:=bind_eq_some_iff.1 h1;obtain⟨hu,hs⟩:=dx hq;simp only at hu hs;rw[hu];obtain⟨⟨l,hh,m⟩,hb,rfl⟩:=ai h1;rw[VS] at hv;subst hv;simp only;rw[hs,ac,hb,ac];exact⟨_,rfl,by rw[VS]⟩
 ·rename_i e0 hk;obtain⟨⟨e,s⟩,hq,h1⟩:=bind_eq_some_iff.1 h1;obtain⟨hu,hs⟩:=dx hq;simp only at hu hs;rw[hu];obtain⟨⟨l,hh,m⟩,hb,h1⟩:=bind_eq_some_iff.1 h1;obtain⟨⟨hl0,hh0,hm0,hse⟩,h5⟩:=aZ h1;clear h1;cases h5;simp only at hse;subst hl0;subst hh0;subst hm0;subst hse;rw[VS] at hv;obtain⟨o,e',rfl,hoe⟩:=hv;simp only;rw[hs,ac,hb,ac];simp only
  cases o with
  | none=>exact⟨_,rfl,by rw[VS];exact⟨none,0,rfl,λh=>t7 rfl h⟩⟩
  | some q=>
   obtain⟨id,off⟩:=q;rw[hoe (by simp)];simp only;rw[ad,ab];exact⟨_,rfl,by rw[VS];exact⟨_,_,rfl,λ_=>rfl⟩⟩
 ·cases h1
end
section
variable {θ θ':Nat->Loc} {ρ ρ0:ff} {P:Program}
def zk{h0:En}{h:H}{S:List SO}(hR:RS θ ρ0 ρ h0 h S){v:SV}{x:AV}(hv:VS θ ρ v x){e:List AV×List SV}(he:entS S v=some e):
 (x=.map none/\e=([],[]))\/∃id l c,x=.map (some id)/\h.mapOf id=some (l,c)/\l.map (·.1)=e.1/\bK θ ρ e.2 (l.map (·.2.1)):=by
 unfold entS at he;split at he
 ·rename_i o;rw[VS] at hv;subst hv;split at he
  ·rename_i ks vs b hS;cases he;obtain⟨_,l,c,q1,⟨q2,_⟩,q3⟩:=hR.obj o _ hS (λh=>by cases h);exact .inr ⟨_,l,c,rfl,by unfold H.mapOf;rw[q1],q2,q3⟩
  ·cases he
 ·cases he;rw[VS,GS] at hv;obtain⟨id,l,c,rfl,h2,h3,h4⟩:=hv;exact .inr ⟨id,l,c,rfl,by unfold H.mapOf;rw[(hR.row id _ h2).2.1],h3.1,h4.vs⟩
 ·cases he;rw[VS] at hv;subst hv;exact .inl ⟨rfl,rfl⟩
 ·cases he
def xE{h0:En}{h:H}{S:List SO}(hR:RS θ ρ0 ρ h0 h S){t:TypeId}{v k w:SV}{x y:AV}{ok:Bool}(hv:VS θ ρ v x)(hk:VS θ ρ k y)(hl:lookupS P S t v k ok=some w):∃z,jS P h t x y ok=some z/\VS θ ρ w z:=by
 unfold lookupS at hl;obtain⟨⟨kt,et⟩,hm,hl⟩:=bind_eq_some_iff.1 hl;obtain⟨ka,hka,hl⟩:=bind_eq_some_iff.1 hl;have:=eQ hk hka;subst this;obtain⟨hkey,hl⟩:=aw hl;obtain⟨⟨ks,vs⟩,hent,hl⟩:=bind_eq_some_iff.1 hl;obtain⟨r,hf,hl⟩:=bind_eq_some_iff.1 hl;obtain⟨⟨u,b⟩,hu,rfl⟩:=ai hl;unfold jS;rw[hm,ac];simp only;rw[hkey,ab]
 have fin:∀z:AV,VS θ ρ u z->VS θ ρ (cond ok (.aO [u,.a (.bool b)]) u) (cond ok (.aO [z,.bool b]) z):=by
  intro z hz;cases ok
  ·exact hz
  ·rw[ab,ab,VS];refine⟨_,rfl,?_⟩;rw[az];refine⟨z,_,rfl,hz,?_⟩;rw[az];exact⟨_,[],rfl,by rw[VS],by rw[aI]⟩
 rcases zk hR hv hent with⟨rfl,he⟩ | ⟨id,l,c,rfl,h1,h2,h3⟩
 ·cases he;simp only[ly,Option.some.injEq] at hf;subst hf;obtain⟨z,hz,hu⟩:=ai hu;cases hu;simp only[ac,dN,hz,aj];exact⟨_,rfl,fin _ (pN z)⟩
 ·simp only at h2 h3 hf;simp only[h1,aj,ac];rw[lz,h2,hf,ac]
  cases r with
  | none=>
   obtain⟨z,hz,hu⟩:=ai hu;cases hu;simp only[hz,aj];exact⟨_,rfl,fin _ (pN z)⟩
  | some i=>
   obtain⟨e,he,hu⟩:=ai hu;cases hu;obtain⟨z,hz,kz⟩:=h3.get he;rw[a6] at hz;obtain⟨e3,he3,rfl⟩:=ai hz;simp only[he3,aj];exact⟨_,rfl,fin _ kz⟩
def jV{α:Type}(g:AV×AV×Nat->α)(x:AV×AV×Nat):∀(l:List (AV×AV×Nat)) (i:Nat),(setAt x l i).map g=(l.map g).set i (g x)
 | [],i=>by cases i<;>rfl
 | e::l,0=>rfl
 | e::l,i+1=>by
  rw[setAt,a0,a0,List.set_cons_succ,jV g x l i]
def ia.snoc{l:List (AV×AV×Nat)}{c:Nat}(h:ia l c)(k v:AV):ia (l++[(k,v,c)]) (c+1):=by
 refine⟨?_,λe he=>?_⟩
 ·rw[bv,List.nodup_append];refine⟨h.1,by simp,?_⟩;intro a ha b hb;obtain⟨e,he,rfl⟩:=mem_map.1 ha;simp only[a0,bw,List.mem_singleton] at hb;subst hb;exact Nat.ne_of_lt (h.2 e he)
 ·rcases List.mem_append.1 he with he | he
  ·exact Nat.lt_succ_of_lt (h.2 e he)
  ·rw[List.mem_singleton.1 he];exact b0 _
def ia.C9{l l':List (AV×AV×Nat)}{c:Nat}(h:ia l c)(hb:l'.map (·.2.2)=l.map (·.2.2)):ia l' c:=by
 refine⟨by rw[hb];exact h.1,λe he=>?_⟩;have:e.2.2∈l'.map (·.2.2):=List.mem_map_of_mem he;rw[hb] at this;obtain⟨e',he',q⟩:=mem_map.1 this;rw[<-q];exact h.2 e' he'
def pz{h0:En}{h:H}{S S':List SO}(hR:RS θ ρ0 ρ h0 h S){t:TypeId}{v k w:SV}{x y z:AV}(hv:VS θ ρ v x)(hk:VS θ ρ k y)(hw:VS θ ρ w z)(hl:cZ P S t v k w=some S'):∃h',fv P h t x y z=some h'/\RS θ ρ0 ρ h0 h' S':=by
 unfold cZ at hl;obtain⟨⟨kt,et⟩,hm,hl⟩:=bind_eq_some_iff.1 hl;obtain⟨ka,hka,hl⟩:=bind_eq_some_iff.1 hl;have:=eQ hk hka;subst this;obtain⟨hkey,hl⟩:=aw hl;unfold fv;rw[hm,ac];simp only;rw[hkey,ab]
 cases v with
 | map o=>
  rw[VS] at hv;subst hv;simp only at hl ⊢;split at hl
  ·rename_i ks vs b hS;obtain⟨_,l,c,q1,⟨q2,qb,qp⟩,q3⟩:=hR.obj o _ hS (λh=>by cases h)
   have hmo:h.mapOf (θ o).id=some (l,c):=by unfold H.mapOf;rw[q1]
   obtain⟨r,hf,hl⟩:=bind_eq_some_iff.1 hl;rw[hmo,ac];simp only;rw[lz,q2,hf,ac]
   cases r with
   | none=>
    simp only at hl ⊢;cases hl;refine⟨_,rfl,hR.Ek hS ?_ ?_⟩
    ·refine⟨by rw[bv,q2];rfl,qb.snoc _ _,λp hp=>?_⟩;obtain⟨p0,hp0,rfl⟩:=ai hp;obtain⟨e1,e2⟩:=qp p0 hp0;exact⟨by rw[bv,e1,e2];rfl,by rw[e2]⟩
    ·rw[bv];refine q3.app ?_;rw[a0,bw,az];exact⟨_,[],rfl,hw,by rw[aI]⟩
   | some i=>
    simp only at hl ⊢;obtain⟨k0,hk0,hl⟩:=bind_eq_some_iff.1 hl;obtain⟨hst,hl⟩:=aw hl;cases hl;rw[<-q2,a6] at hk0;obtain⟨e3,he3,rfl⟩:=ai hk0;rw[he3,ac,hst,ab];refine⟨_,rfl,hR.Ek hS ?_ ?_⟩
    ·have hb:(setAt (y,z,e3.2.2) l i).map (·.2.2)=l.map (·.2.2):=by
      rw[jV];apply List.ext_getElem?;intro j;rw[List.getElem?_set];split
      ·rename_i e;subst e;split
       ·rw[a6,he3];rfl
       ·rename_i hl;rw[a7] at hl;rw[bb (by rw[a7];omega)]
      ·rfl
     exact⟨by rw[jV,q2],qb.C9 hb,λp hp=>by rw[hb];exact qp p hp⟩
    ·rw[jV];exact q3.set i hw
  ·cases hl
 | _=>simp at hl
def bK.erase:∀{ds:List SV} {aS:List AV} (i:Nat),bK θ ρ ds aS->bK θ ρ (ds.eraseIdx i) (aS.eraseIdx i)
 | [],aS,i,h=>by rw[aI] at h;subst h;rw[c0,c0,aI]
 | d::ds,aS,i,h=>by
  rw[az] at h;obtain⟨a,r,rfl,h1,h2⟩:=h
  cases i with
  | zero=>exact h2
  | succ i=>rw[a5,a5,az];exact⟨a,_,rfl,h1,bK.erase i h2⟩
def cW{α β:Type}(g:α->β):∀(l:List α) (i:Nat),(l.eraseIdx i).map g=(l.map g).eraseIdx i
 | [],i=>by simp
 | a::l,0=>rfl
 | a::l,i+1=>by rw[a5,a0,a0,a5,cW g l i]
def CW{h0:En}{h:H}{S S':List SO}(hR:RS θ ρ0 ρ h0 h S){t:TypeId}{v k:SV}{x y:AV}(hv:VS θ ρ v x)(hk:VS θ ρ k y)(hl:AH P S t v k=some S'):∃h',ld P h t x y=some (.aO [],h')/\RS θ ρ0 ρ h0 h' S':=by
 unfold AH at hl;obtain⟨⟨kt,et⟩,hm,hl⟩:=bind_eq_some_iff.1 hl;obtain⟨ka,hka,hl⟩:=bind_eq_some_iff.1 hl;have:=eQ hk hka;subst this;obtain⟨hkey,hl⟩:=aw hl;unfold ld;rw[hm,ac];simp only;rw[hkey,ab]
 cases v with
 | map o=>
  rw[VS] at hv;subst hv;simp only at hl ⊢;split at hl
  ·rename_i ks vs b hS;obtain⟨_,l,c,q1,⟨q2,qb,qp⟩,q3⟩:=hR.obj o _ hS (λh=>by cases h)
   have hmo:h.mapOf (θ o).id=some (l,c):=by unfold H.mapOf;rw[q1]
   obtain⟨r,hf,rfl⟩:=ai hl;rw[hmo,ac];simp only;rw[lz,q2,hf,aj]
   cases r with
   | none=>exact⟨_,rfl,hR⟩
   | some i=>
    refine⟨_,rfl,hR.Ek hS ?_ ?_⟩
    ·refine⟨by rw[cW,q2],⟨by rw[cW];exact qb.1.sublist (List.eraseIdx_sublist _ _),λe he=>qb.2 e (List.mem_of_mem_eraseIdx he)⟩,λp hp=>?_⟩;obtain⟨p0,hp0,rfl⟩:=ai hp;obtain⟨e1,e2⟩:=qp p0 hp0;exact⟨by rw[cW,e1],e2⟩
    ·rw[cW];exact q3.erase i
  ·cases hl
 | _=>simp at hl
def C4{h0:En}{h:H}{S:List SO}(hR:RS θ ρ0 ρ h0 h S){t:TypeId}{v:SV}{x:AV}{n:Nat}(hv:VS θ ρ v x)(hl:jo P S t v=some n):va P h t x=some (.int .i64 (n:Int)):=by
 unfold jo at hl;unfold va;split at hl
 ·rename_i s hk;rw[pk hk];rw[VS] at hv;subst hv;cases hl;rfl
 ·rename_i n' _ cs hk;obtain⟨e,hu⟩:=iY hk;rw[hu];rw[VS,GS] at hv;cases hl
  rcases hv with⟨rfl,_,o,e',c,rfl,_,_⟩ | ⟨id,off,cap,row,rfl,_⟩<;>rfl
 ·rename_i o n' _ c hk;obtain⟨e,hu⟩:=iY hk;rw[hu];rw[VS] at hv;subst hv;cases hl;rfl
 ·rename_i n' _ c hk;obtain⟨e,hu⟩:=iY hk;rw[hu];rw[VS] at hv;subst hv;cases hl;rfl
 ·rename_i hk;obtain⟨kt,et,hu⟩:=BT hk;rw[hu];obtain⟨e,he,rfl⟩:=ai hl
  rcases zk hR hv he with⟨rfl,rfl⟩ | ⟨id,l,c,rfl,h1,h2,h3⟩
  ·rfl
  ·simp only[h1,aj,<-h2,a7];rfl
 ·rename_i o off n' _ c hk;obtain⟨e,hu⟩:=iY hk;rw[hu];rw[VS] at hv;subst hv;cases hl;rfl
 ·rename_i e hk;obtain⟨e,hu⟩:=iY hk;rw[hu];rw[VS] at hv;obtain⟨o,e',rfl,_⟩:=hv;cases hl;rfl
 ·cases hl
def vI{h0:En}{h:H}{S:List SO}(hR:RS θ ρ0 ρ h0 h S){s m:Nat}{v:SV}{x:AV}{new:List SV}(hv:VS θ ρ v x)(hl:rowsS S s v=some (m,new)):
 ∃o es c xs,x=.slice o m es c/\(beq es s||beq m 0)=true/\bo h o m s=some xs/\bK θ ρ new xs:=by
 unfold rowsS at hl;split at hl
 ·rename_i n e cs;obtain⟨hb,hl⟩:=aZ hl;cases hl;subst hb;rw[VS,GS] at hv
  rcases hv with⟨rfl,rfl,o,e',c,rfl,_,_⟩ | ⟨id,off,cap,row,rfl,h2,h3,h4⟩
  ·refine⟨o,e',c,[],rfl,by simp,?_,by rw[aI]⟩;unfold bo
   cases o with
   | none=>rfl
   | some q=>rfl
  ·refine⟨_,e,cap,(row.drop off).take (m*e),rfl,by rw[ad,cp],?_,h4.vs⟩;unfold bo;simp only;cases hm:beq m 0
   ·rw[ah,gk,vH hR h2];simp only[ac,fZ];rw[cP h3,ab]
   ·have:=bD hm;subst this;rw[ab,b6,ce]
 ·rename_i o n e c;split at hl
  ·rename_i cs hS;obtain⟨⟨hes,hle⟩,hl⟩:=aZ hl;cases hl;subst hes;rw[VS] at hv;subst hv;obtain⟨_,aS,q1,q2,_⟩:=hR.obj o _ hS (λh=>by cases h);refine⟨_,e,c,aS.take (m*e),rfl,by rw[ad,cp],?_,q2.take _⟩;unfold bo;simp only;cases hm:beq m 0
   ·rw[ah,gk];unfold kg;rw[q1];simp only[ac,fZ];show fZ aS 0 (m*e)=_;unfold fZ;rw[cP (show 0+m*e<=aS.length by rw[q2.length];omega),ab,b8]
   ·have:=bD hm;subst this;rw[ab,b6,ce]
  ·cases hl
 ·cases hl;rw[VS] at hv;subst hv;exact⟨none,0,some 0,[],rfl,by simp,rfl,by rw[aI]⟩
 ·rename_i o off n e c;split at hl
  ·rename_i cs hS;obtain⟨⟨hes,hle⟩,hl⟩:=aZ hl;cases hl;subst hes;rw[VS] at hv;subst hv;obtain⟨_,aS,q1,q2,_⟩:=hR.obj o _ hS (λh=>by cases h);refine⟨_,e,c,(aS.drop off).take (m*e),rfl,by rw[ad,cp],?_,(q2.drop off).take _⟩;unfold bo;simp only;cases hm:beq m 0
   ·rw[ah,gk];unfold kg;rw[q1];simp only[ac,fZ];show fZ aS off (m*e)=_;unfold fZ;rw[cP (show off+m*e<=aS.length by rw[q2.length];omega),ab]
   ·have:=bD hm;subst this;rw[ab,b6,ce]
  ·cases hl
 ·cases hl;rw[VS] at hv;obtain⟨o,e',rfl,_⟩:=hv;refine⟨o,e',some 0,[],rfl,by simp,?_,by rw[aI]⟩;unfold bo
  cases o with
  | none=>rfl
  | some q=>rfl
 ·cases hl
def vl{a b:Nat}(h:a≠b):beq a b=false:=by
 cases hb:beq a b
 ·rfl
 ·exact t7 (bD hb) h
def xK{h0:En}{h:H}{S:List SO}(hR:RS θ ρ0 ρ h0 h S){xt e:TypeId}{s m:Nat}{z:AV}{w:SV}{y:AV}{new:List SV}(hz:bT P e=some z)(hzl:z.cells.length=s)(hw:VS θ ρ w y)(hl:lG P S xt s z w=some (m,new)):
 ∃xs,gj P h e s xt y=some (m,xs)/\bK θ ρ new xs:=by
 unfold lG at hl;unfold gj;split at hl
 ·rename_i hk;obtain⟨e',hux⟩:=iY hk;obtain⟨o,es,c,xs,rfl,k1,k2,k3⟩:=vI hR hw hl;rw[hux];simp only;rw[k1,ab,k2];exact⟨xs,rfl,k3⟩
 ·obtain⟨hi,hl⟩:=aw hl;obtain⟨n,hn,hl⟩:=bind_eq_some_iff.1 hl;obtain⟨hb,hl⟩:=aZ hl;cases hl;unfold isInt at hi;split at hi
  ·rename_i kk hu;rw[hu];simp only;rw[sL hw hn,ac,hz,ac,cP hb,hzl,ad,ap,ab];exact⟨_,rfl,bK.a _⟩
  ·cases hi
 ·cases hl
def xk{h0:En}{h:H}{S S':List SO}(hR:RS θ ρ0 ρ h0 h S){st xt:TypeId}{v w r:SV}{x y:AV}{kill:Option Nat}(hv:VS θ ρ v x)(hw:VS θ ρ w y)(hl:kY P S st xt v w=some (r,S',kill)):
 ∃z h' θ',kX P h st xt x y=some (z,h')/\RS θ' ρ0 ρ h0 h' S'/\VS θ' ρ r z/\∀v x,VS θ ρ v x->VS θ' ρ (eU kill v) x:=by
 unfold kY at hl;have hl2:=bind_eq_some_iff.1 hl;clear hl;obtain⟨⟨e,s⟩,hel,hl⟩:=hl2;obtain⟨hu,hs⟩:=dx hel;simp only at hu hs hl;obtain⟨i,hi,rfl⟩:=ai hs;have hl2:=bind_eq_some_iff.1 hl;clear hl;obtain⟨z,hz,hl⟩:=hl2;have hl2:=aZ hl;clear hl;obtain⟨⟨b1,b2,b3⟩,hl⟩:=hl2;have hl2:=bind_eq_some_iff.1 hl;clear hl;obtain⟨⟨m,new⟩,hrow,hl⟩:=hl2;unfold iS at b3;rw[hi] at b3;simp only at b3 hl;have b2':=vl b2;obtain⟨xs,happ,k3⟩:=xK hR hz b1 hw hrow;unfold kX;rw[hu];by_cases hm:m=0
 ·rw[t8 hm] at hl
  have hmb:beq m 0=true:=by rw[hm];rfl
  unfold uc at hl;split at hl
  ·cases hl;have hv':=hv;rw[VS] at hv;subst hv;simp only[hi,hz,ac,b1,b2',b3,ad,cP (show 0<=1000000 by omega),a4,ap,ab,happ,hmb];exact⟨_,_,θ,rfl,hR,hv',λv x h=>h⟩
  ·obtain⟨hn,hl⟩:=aZ hl;cases hl;have hv':=hv;rw[VS] at hv;subst hv;simp only[hi,hz,ac,b1,b2',b3,ad,cP hn,a4,ap,ab,happ,hmb];exact⟨_,_,θ,rfl,hR,hv',λv x h=>h⟩
  ·cases hl;have hv':=hv;rw[VS] at hv;obtain⟨o',e',rfl,_⟩:=hv;simp only[hi,hz,ac,b1,b2',b3,ad,cP (show 0<=1000000 by omega),a4,ap,ab,happ,hmb];exact⟨_,_,θ,rfl,hR,hv',λv x h=>h⟩
  ·cases hl
 ·rw[ul hm] at hl;have hmb:=vl hm;have hl2:=aZ hl;clear hl;obtain⟨⟨b4,b5⟩,hl⟩:=hl2;have hone:=iq k3 b5;unfold qi at hl;split at hl
  ·rw[VS] at hv;subst hv;cases hl;obtain⟨n1,n2⟩:=hR.new (so:=.cells new) (ob:=.cells xs h.next) (.inl ⟨new,xs,rfl,rfl,k3⟩);simp only[hi,hz,ac,b1,b2',b3,ad,cP (show 0<=1000000 by omega),a4,ap,ab,happ,hmb,ah,cP b4,H.gz];refine⟨_,_,_,rfl,n1,?_,n2⟩;rw[VS,bp]
  ·rename_i o' n es';rw[VS] at hv;subst hv;split at hl
   ·rename_i cs hS;obtain⟨⟨c1,c2,c3⟩,hl2⟩:=aZ hl;cases hl2;subst c1;obtain⟨_,aS,q1,q2,q3⟩:=hR.obj o' _ hS (λh=>by cases h);obtain⟨f1,f2,f3⟩:=hR.fork hS k3 q1 c3
    have hle:ble (n*i.size) aS.length=true:=by rw[q2.length];exact cP c3
    simp only[hi,hz,ac,b1,b2',b3,cP c2,a4,ap,ab,happ,hmb,ah,cP b4,ad,q1,hle,hone,cb];refine⟨_,_,_,rfl,f2,?_,f3⟩;rw[VS,bp,f1]
   ·cases hl
  ·rename_i e';obtain⟨c1,hl2⟩:=aZ hl;cases hl2;rw[VS] at hv;obtain⟨o',e'',rfl,ho'⟩:=hv;obtain⟨n1,n2⟩:=hR.new (so:=.cells new) (ob:=.cells xs h.next) (.inl ⟨new,xs,rfl,rfl,k3⟩)
   cases o' with
   | none=>
    simp only[hi,hz,ac,b1,b2',b3,ad,cP (show 0<=1000000 by omega),a4,ap,ab,happ,hmb,ah,cP b4,H.gz];refine⟨_,_,_,rfl,n1,?_,n2⟩;rw[VS,bp]
   | some q=>
    have:=ho' (by simp);subst this;subst c1;obtain⟨id,off⟩:=q
    have hnl:ble (0+m) 0=false:=by
     cases hb:ble (0+m) 0
     ·rfl
     ·have:=a9 hb;omega
    have hsc:bo h (some (id,off)) 0 i.size=some []:=rfl;simp only[hi,hz,ac,b1,b2',b3,ad,cP (show 0<=1000000 by omega),a4,ap,ab,happ,hmb,ah,cP b4,H.gz,hnl,hsc,aj,dv];refine⟨_,_,_,rfl,n1,?_,n2⟩;rw[VS,bp,cb]
  ·rename_i o' n es' c';rw[VS] at hv;subst hv;split at hl
   ·rename_i cs hS;obtain⟨⟨c1,c2,c3,c4⟩,hl2⟩:=aZ hl;cases hl2;subst c1;obtain⟨_,aS,q1,q2,q3⟩:=hR.obj o' _ hS (λh=>by cases h);obtain⟨n1,n2⟩:=hR.new (so:=.cells (cs.take (n*i.size)++new)) (ob:=.cells (aS.take (n*i.size)++xs) h.next) (.inl ⟨_,_,rfl,rfl,(q2.take _).app k3⟩)
    have hnl:ble (n+m) c'=false:=by
     cases hb:ble (n+m) c'
     ·rfl
     ·have:=a9 hb;omega
    have hsc:bo h (some ((θ o').id,0)) n i.size=some (aS.take (n*i.size)):=by
     unfold bo;simp only;cases hm:beq n 0
     ·rw[ah,gk];unfold kg;rw[q1];simp only[ac];show fZ aS 0 (n*i.size)=_;unfold fZ;rw[cP (show 0+n*i.size<=aS.length by rw[q2.length];omega),ab,b8]
     ·have:=bD hm;subst this;rw[ab,b6,ce]
    simp only[hi,hz,ac,b1,b2',b3,cP c2,a4,ap,ab,happ,hmb,ah,cP b4,ad,hnl,hsc,aj,H.gz];refine⟨_,_,_,rfl,n1,?_,n2⟩;rw[VS,bp]
   ·cases hl
  ·cases hl
def CS{x:SV}{a:AV}{c:Nat}(hv:VS θ ρ x a)(hc:oQ x=some c):∃o n e,a=.slice o n e (some c):=by
 unfold oQ at hc;split at hc
 ·cases hc;rw[VS] at hv;exact⟨_,_,_,hv⟩
 ·cases hc;rw[VS] at hv;exact⟨_,_,_,hv⟩
 ·cases hc;rw[VS] at hv;exact⟨_,_,_,hv⟩
 ·cases hc;rw[VS] at hv;obtain⟨o,e',rfl,_⟩:=hv;exact⟨_,_,_,rfl⟩
 ·cases hc
def Bz{x:SV}{a:AV}{o off n e:Nat}(hv:VS θ ρ x a)(hc:DF x=some (o,off,n,e)):∃c,a=.slice (some ((θ o).id,off)) n e c:=by
 unfold DF at hc;split at hc
 ·cases hc;rw[VS] at hv;exact⟨_,hv⟩
 ·cases hc;rw[VS] at hv;exact⟨_,hv⟩
 ·cases hc
def BF{h0:En}{h:H}{S S':List SO}(hR:RS θ ρ0 ρ h0 h S){t:TypeId}{v w r:SV}{x y:AV}{kill:Option Nat}(hv:VS θ ρ v x)(hw:VS θ ρ w y)(hl:uF P S t v w=some (r,S',kill)):
 ∃z h' θ',uE P h t x y=some (z,h')/\RS θ' ρ0 ρ h0 h' S'/\VS θ' ρ r z/\∀v x,VS θ ρ v x->VS θ' ρ (eU kill v) x:=by
 unfold uF at hl;obtain⟨⟨e,s⟩,hel,hl⟩:=bind_eq_some_iff.1 hl;obtain⟨hu,hs⟩:=dx hel;obtain⟨⟨o,off,dl,des⟩,hat,hl⟩:=bind_eq_some_iff.1 hl;obtain⟨⟨m,new⟩,hrow,hl⟩:=bind_eq_some_iff.1 hl;obtain⟨cap,rfl⟩:=Bz hv hat;obtain⟨o',es,c,xs,rfl,k1,k2,k3⟩:=vI hR hw hrow;simp only at hl hu hs hrow k2;unfold uE;rw[hu];simp only;rw[hs,ac];unfold ze at hl;by_cases hn:Nat.min m dl=0
 ·rw[t8 hn] at hl;cases hl;rw[hn];exact⟨_,_,θ,rfl,hR,by rw[VS],λv x h=>h⟩
 ·rw[ul hn] at hl;split at hl
  ·rename_i cs hS;obtain⟨⟨c1,c2,c3,c4⟩,hl2⟩:=aZ hl;cases hl2;subst c1;have hm:m≠0:=λe=>hn (by rw[e];exact Nat.zero_min _)
   have hes:es=des:=by
    rw[vl hm,d2] at k1;exact bD k1
   subst hes;have hmn:Nat.min m dl<=m:=Nat.min_le_left _ _;generalize Nat.min m dl=n at *
   obtain⟨id,off',row,rfl,hch⟩:∃id off' row,o'=some (id,off')/\kg h.aD id=some row/\off'+m*es<=row.length/\xs=(row.drop off').take (m*es):=by
    unfold bo at k2
    cases o' with
    | none=>simp[vl hm] at k2
    | some q=>
     obtain⟨id,off'⟩:=q;simp only[vl hm,ah,gk] at k2;obtain⟨row,hr,k2⟩:=bind_eq_some_iff.1 k2;unfold fZ at k2;obtain⟨hb,k2⟩:=aw k2;exact⟨id,off',row,rfl,hr,a9 hb,by cases k2;rfl⟩
   have hle:n*es<=m*es:=bc _ hmn
   have hsc:bo h (some (id,off')) n es=some (xs.take (n*es)):=by
    unfold bo;simp only[vl hn,ah,gk,hch.1,ac];unfold fZ;rw[cP (show off'+n*es<=row.length by omega),ab,hch.2.2,cd,bi hle]
   have hl1:(new.take (n*es)).length=n*es:=by rw[cl,bi c3]
   obtain⟨h',e1,e2,e3⟩:=hR.store (off:=off) hS (k3.take (n*es)) (iq (k3.take _) c4) (by rw[hl1];exact c2);refine⟨_,h',_,?_,by rw[hl1] at e2;exact e2,by rw[VS],e3⟩;rw[vl hn,ah,ad,ap,ab,hsc,ac];simp only[e1,aj];rfl
  ·cases hl
def AE{h0:En}{h:H}{S S':List SO}(hR:RS θ ρ0 ρ h0 h S){t:TypeId}{v r:SV}{x:AV}{kill:Option Nat}(hv:VS θ ρ v x)(hl:oU P S t v=some (r,S',kill)):
 ∃z h' θ',oT P h t x=some (z,h')/\RS θ' ρ0 ρ h0 h' S'/\VS θ' ρ r z/\∀v x,VS θ ρ v x->VS θ' ρ (eU kill v) x:=by
 unfold oU at hl;obtain⟨⟨e,s⟩,hel,hl⟩:=bind_eq_some_iff.1 hl;obtain⟨hu,hs⟩:=dx hel;obtain⟨z,hz,hl⟩:=bind_eq_some_iff.1 hl;obtain⟨⟨o,off,n,es⟩,hat,hl⟩:=bind_eq_some_iff.1 hl;obtain⟨cap,rfl⟩:=Bz hv hat;simp only at hl hu hs hz;unfold oT;rw[hu];simp only;rw[hs,ac,hz,ac];by_cases hn:n=0
 ·rw[t8 hn] at hl;cases hl;subst hn;exact⟨_,_,θ,rfl,hR,by rw[VS];rfl,λv x h=>h⟩
 ·rw[ul hn] at hl;split at hl
  ·rename_i cs hS;obtain⟨⟨c1,c2,c3,c4⟩,hl2⟩:=aZ hl;cases hl2;subst c1
   have hl1:((rep z.cells n).map SV.a).length=n*es:=by
    rw[a7,dn,c2]
   obtain⟨h',e1,e2,e3⟩:=hR.store (off:=off) hS (bK.a (rep z.cells n)) c4 (by rw[hl1];exact c3);refine⟨_,h',_,?_,by rw[hl1] at e2;exact e2,by rw[VS],e3⟩;rw[vl hn,ah,ad,c2,ad,ap,ab];simp only[e1,aj];rfl
  ·cases hl
def ur{h0:En}{h:H}{S S':List SO}(hR:RS θ ρ0 ρ h0 h S){b:Builtin}{ats:List TypeId}{vs:List SV}{xs:List AV}{r:SV}{kill:Option Nat}(hv:bK θ ρ vs xs)(hl:bX P S b ats vs=some (r,S',kill)):
 ∃z h' θ',gq P h b ats xs=some (z,h')/\RS θ' ρ0 ρ h0 h' S'/\VS θ' ρ r z/\∀v x,VS θ ρ v x->VS θ' ρ (eU kill v) x:=by
 unfold bX at hl;split at hl
 ·rename_i st xt l x y;rw[az] at hv;obtain⟨a,r1,rfl,h1,hv⟩:=hv;rw[az] at hv;obtain⟨a2,r2,rfl,h2,hv⟩:=hv;rw[aI] at hv;subst hv;have:=xk hR h1 h2 hl;exact this
 ·rename_i t l x xs';rw[az] at hv;obtain⟨a,r1,rfl,h1,hv⟩:=hv;obtain⟨n,hn,hl⟩:=ai hl;cases hl;have:=C4 hR h1 hn;refine⟨.int .i64 (n:Int),h,θ,?_,hR,?_,λv x h=>h⟩
  ·show(va P h t a).map (λv=>(v,h))=_;rw[this];rfl
  ·rw[VS]
 ·rename_i x l;rw[az] at hv;obtain⟨a,r1,rfl,h1,hv⟩:=hv;obtain⟨n,hn,hl⟩:=ai hl;cases hl;obtain⟨z,hz,kz⟩:=sJ h1 hv hn;refine⟨z,h,θ,?_,hR,kz,λv x h=>h⟩;unfold gq;split<;>simp_all
 ·rename_i x l;rw[az] at hv;obtain⟨a,r1,rfl,h1,hv⟩:=hv;obtain⟨n,hn,hl⟩:=ai hl;cases hl;obtain⟨z,hz,kz⟩:=sJ h1 hv hn;refine⟨z,h,θ,?_,hR,kz,λv x h=>h⟩;unfold gq;split<;>simp_all
 ·rename_i t l x k l';rw[az] at hv;obtain⟨a,r1,rfl,h1,hv⟩:=hv;rw[az] at hv;obtain⟨a2,r2,rfl,h2,hv⟩:=hv;obtain⟨S2,hS2,hl⟩:=ai hl;cases hl;obtain⟨h',e1,e2⟩:=CW hR h1 h2 hS2;exact⟨_,h',θ,e1,e2,by rw[VS];rfl,λv x h=>h⟩
 ·rename_i dt l x y;rw[az] at hv;obtain⟨a,r1,rfl,h1,hv⟩:=hv;rw[az] at hv;obtain⟨a2,r2,rfl,h2,hv⟩:=hv;rw[aI] at hv;subst hv;exact BF hR h1 h2 hl
 ·rename_i t l x;rw[az] at hv;obtain⟨a,r1,rfl,h1,hv⟩:=hv;rw[aI] at hv;subst hv;exact AE hR h1 hl
 ·rename_i t l x;rw[az] at hv;obtain⟨a,r1,rfl,h1,hv⟩:=hv;rw[aI] at hv;subst hv;obtain⟨⟨e,s⟩,hel,hl⟩:=bind_eq_some_iff.1 hl;obtain⟨hu,_⟩:=dx hel;obtain⟨c,hc,hl⟩:=ai hl;cases hl;obtain⟨o,n,e',rfl⟩:=CS h1 hc;refine⟨.int .i64 (c:Int),h,θ,?_,hR,by rw[VS],λv x h=>h⟩;show(match P.underlying t with | some (.slice _)=>some (AV.int .i64 (ofNat c),h) | _=>none)=_;rw[hu];rfl
 ·cases hl
def Cd{c a b:Option SV}{v:SV}(h:vz c a b=some v):∃z x y,c=some (.a (.bool z))/\a=some x/\b=some y/\v=cond z x y:=by
 unfold vz at h;split at h
 ·cases h;exact⟨_,_,_,rfl,rfl,rfl,rfl⟩
 ·cases h
def FR.ez{f:Fm}{af:Nat->AV}{n:Nat}{kill:Option Nat}{wv:Nat->AV}(hF:FR θ ρ (aC f) af n wv)(hk:∀v x,VS θ ρ v x->VS θ' ρ (eU kill v) x):FR θ' ρ (aC (Ev.ez f kill)) af n wv:=by
 refine⟨λi=>?_,hF.u⟩;have:=hk _ _ (hF.v i)
 cases kill with
 | none=>exact this
 | some o=>show VS θ' ρ (aC (cm o f) i) _;rw[dU];exact this
def FR.put{f:Fm}{af:Nat->AV}{n:Nat}{wv:Nat->AV}(hF:FR θ ρ (aC f) af n wv){d:Nat}{v:SV}{x:AV}(hd:d<n)(hv:VS θ ρ v x):FR θ ρ (aC ((d,v)::f)) (qg af d x) n wv:=by
 refine⟨λi=>?_,hF.u⟩;show VS θ ρ (if d=i then v else aC f i) _;by_cases hdi:d=i
 ·subst hdi;rw[t8 rfl,t8 hd,mq];exact hv
 ·rw[ul hdi,j7 _ _ (λe=>hdi e.symm)];exact hF.v i
def FR.kill{f:Fm}{af:Nat->AV}{n:Nat}{kill:Option Nat}{wv:Nat->AV}(hF:FR θ ρ (aC f) af n wv)(hk:∀v x,VS θ ρ v x->VS θ' ρ (eU kill v) x){d:Nat}{v:SV}{x:AV}(hd:d<n)(hv:VS θ' ρ v x):FR θ' ρ (aC (j9 f kill (some d) v)) (qg af d x) n wv:=(hF.ez hk).put hd hv
def Ep{h0:En}{h:H}{S S':List SO}(hR:RS θ ρ0 ρ h0 h S){f:Fm}{af:Nat->AV}{n:Nat}{wv:Nat->AV}(hF:FR θ ρ (aC f) af n wv){op:Op}{r:SV}{kill:Option Nat}(hop:sOp P f S op=some (r,S',kill)):
 ∃rv h' θ',cJ P (cg af n) h op=some [(rv,h')]/\RS θ' ρ0 ρ h0 h' S'/\VS θ' ρ r (Fq rv)/\∀v x,VS θ ρ v x->VS θ' ρ (eU kill v) x:=by
 have pure:∀{w:SV} {y:AV},cJ P (cg af n) h op=some [(some y,h)]->VS θ ρ w y->some (w,S,(none:Option Nat))=some (r,S',kill)->∃rv h' θ',cJ P (cg af n) h op=some [(rv,h')]/\RS θ' ρ0 ρ h0 h' S'/\VS θ' ρ r (Fq rv)/\∀v x,VS θ ρ v x->VS θ' ρ (eU kill v) x:=by
  intro w y h1 h2 h3;cases h3;exact⟨some y,h,θ,h1,hR,h2,λv x h=>h⟩
 have fresh:∀{so:SO} {ob:AO} {w:SV} {y:AV},cJ P (cg af n) h op=some [(some y,{ h.lay h.next ob with next:=h.next+1 })]->((∃cs aS,so=.cells cs/\ob=.cells aS h.next/\bK θ ρ cs aS)\/(so=.map [] [] none/\ob=.map [] 0))->VS (dH θ S.length ⟨h.next,h.next,h.next,h.next⟩) ρ w y->some (w,dG S so,some S.length)=some (r,S',kill)->∃rv h' θ',cJ P (cg af n) h op=some [(rv,h')]/\RS θ' ρ0 ρ h0 h' S'/\VS θ' ρ r (Fq rv)/\∀v x,VS θ ρ v x->VS θ' ρ (eU kill v) x:=by
  intro so ob w y h1 h2 h3 h4;cases h4;obtain⟨k1,k2⟩:=hR.new h2;exact⟨some y,_,_,h1,k1,h3,k2⟩
 cases op with
 | move x=>
  obtain⟨v,hv,e⟩:=ai hop;obtain⟨a,ha,ka⟩:=aQ hF hv;exact pure (by rw[Di,ha];rfl) ka (by rw[e])
 | assign x=>
  obtain⟨v,hv,e⟩:=ai hop;obtain⟨a,ha,ka⟩:=aQ hF hv;exact pure (by rw[AU,ha];rfl) ka (by rw[e])
 | pick c a b=>
  obtain⟨v,hv,e⟩:=ai hop;obtain⟨z,x,y,h1,h2,h3,rfl⟩:=Cd hv;obtain⟨c',g1,k1⟩:=aQ hF h1;obtain⟨a',g2,k2⟩:=aQ hF h2;obtain⟨b',g3,k3⟩:=aQ hF h3;rw[VS] at k1;subst k1;exact pure (w:=cond z x y) (y:=cond z a' b') (by rw[Dj,g1,g2,g3];rfl) (by cases z;exact k3;exact k2) (by rw[e])
 | alloc e=>
  obtain⟨z,hz,he⟩:=ai hop;exact fresh (w:=.ptr S.length 0) (so:=.cells (z.cells.map .a)) (ob:=.cells z.cells h.next) (by rw[B5,hz];rfl) (.inl ⟨_,_,rfl,rfl,bK.a _⟩) (by rw[VS,bp]) (by rw[he])
 | box e x=>
  obtain⟨v,hv,hop⟩:=bind_eq_some_iff.1 hop;obtain⟨cs,hcs,he⟩:=ai hop;obtain⟨a,ha,ka⟩:=aQ hF hv;exact fresh (w:=.ptr S.length 0) (so:=.cells cs) (ob:=.cells a.cells h.next) (by rw[El,ha];rfl) (.inl ⟨_,_,rfl,rfl,mE ka hcs⟩) (by rw[VS,bp]) (by rw[he])
 | build tt ps=>
  obtain⟨l,hl,hop⟩:=bind_eq_some_iff.1 hop;obtain⟨v,hv,he⟩:=ai hop;obtain⟨aS,h1,k1⟩:=mX hF hl;obtain⟨a,ha,ka⟩:=AA k1 hv;exact pure (by rw[B6,h1,ac,ha];rfl) ka (by rw[he])
 | buildSlice tt m ps=>
  obtain⟨l,hl,hop⟩:=bind_eq_some_iff.1 hop;obtain⟨q,hv,he⟩:=ai hop;obtain⟨aS,h1,k1⟩:=mX hF hl;obtain⟨cs,ha,ka⟩:=oO k1 hv;exact fresh (w:=.buf S.length m q.1 (some m)) (so:=.cells q.2) (ob:=.cells cs h.next) (by rw[qu,h1,ac,ha];rfl) (.inl ⟨_,_,rfl,rfl,ka⟩) (by rw[VS,bp]) (by rw[he])
 | makeMap tt x=>
  cases x with
  | none=>
   have he:some ((SV.map S.length,dG S (.map [] [] none),some S.length):SV×List SO×Option Nat)=some (r,S',kill):=hop;exact fresh (w:=.map S.length) (so:=.map [] [] none) (ob:=.map [] 0) (by rw[xQ]) (.inr ⟨rfl,rfl⟩) (by rw[VS,bp]) he
  | some _=>simp[sOp] at hop
 | makeSlice tt l c=>
  simp only[sOp] at hop;split at hop
  ·rename_i la ca hl hc;obtain⟨q,hq,he⟩:=ai hop;obtain⟨l',g1,k1⟩:=aQ hF hl;obtain⟨c',g2,k2⟩:=aQ hF hc;rw[VS] at k1 k2;subst k1;subst k2;refine fresh (w:=.buf S.length q.1 q.2.1 (some q.2.2.1)) (so:=.cells (q.2.2.2.map .a)) (ob:=.cells q.2.2.2 h.next) (y:=.slice (some (h.next,0)) q.1 q.2.1 (some q.2.2.1)) ?_ (.inl ⟨_,_,rfl,rfl,bK.a _⟩) (by rw[VS,bp]) (by rw[he]);simp only[cJ,iM,g1,g2,ac,hq,aj]
  ·cases hop
 | load tt a=>
  obtain⟨a',ha,hop⟩:=bind_eq_some_iff.1 hop;obtain⟨v,hv,he⟩:=ai hop;obtain⟨x,g1,k1⟩:=aQ hF ha;obtain⟨y,g2,k2⟩:=vb hR k1 hv;exact pure (by rw[Dg,g1,g2];rfl) k2 (by rw[he])
 | store tt a x=>
  obtain⟨a',ha,hop⟩:=bind_eq_some_iff.1 hop;obtain⟨x',hx,hop⟩:=bind_eq_some_iff.1 hop;obtain⟨S2,hS,he⟩:=ai hop;cases he;obtain⟨p,g1,k1⟩:=aQ hF ha;obtain⟨y,g2,k2⟩:=aQ hF hx;obtain⟨h',θ',e1,e2,e3⟩:=A3 hR k1 k2 hS;exact⟨none,h',θ',by rw[Cb,g1,g2,e1];rfl,e2,by rw[VS];rfl,e3⟩
 | nilCheck x=>
  obtain⟨a',ha,hop⟩:=bind_eq_some_iff.1 hop;obtain⟨v,hv,he⟩:=ai hop;obtain⟨p,g1,k1⟩:=aQ hF ha;obtain⟨e1,rfl⟩:=C5 (P:=P) k1 hv;refine pure (y:=p) ?_ k1 (by rw[he]);simp only[cJ,g1,ac,e1,aj]
 | binOp op t x y yt=>
  obtain⟨x',hx,hop⟩:=bind_eq_some_iff.1 hop;obtain⟨y',hy,hop⟩:=bind_eq_some_iff.1 hop;obtain⟨xa,hxa,hop⟩:=bind_eq_some_iff.1 hop;obtain⟨ya,hya,hop⟩:=bind_eq_some_iff.1 hop;obtain⟨v,hv,he⟩:=ai hop;obtain⟨p,g1,k1⟩:=aQ hF hx;obtain⟨q,g2,k2⟩:=aQ hF hy;have e1:=eQ k1 hxa;have e2:=eQ k2 hya;subst e1;subst e2;exact pure (w:=.a v) (y:=v) (by rw[xN,g1,g2,ac,ac,hv];rfl) (by rw[VS]) (by rw[he])
 | unOp op t x=>
  obtain⟨x',hx,hop⟩:=bind_eq_some_iff.1 hop;obtain⟨xa,hxa,hop⟩:=bind_eq_some_iff.1 hop;obtain⟨v,hv,he⟩:=ai hop;obtain⟨p,g1,k1⟩:=aQ hF hx;have e1:=eQ k1 hxa;subst e1;exact pure (w:=.a v) (y:=v) (by rw[EU,g1,ac,hv];rfl) (by rw[VS]) (by rw[he])
 | convert s d x=>
  obtain⟨x',hx,hop⟩:=bind_eq_some_iff.1 hop;obtain⟨xa,hxa,hop⟩:=bind_eq_some_iff.1 hop;obtain⟨v,hv,he⟩:=ai hop;obtain⟨p,g1,k1⟩:=aQ hF hx;have e1:=eQ k1 hxa;subst e1;exact pure (w:=.a v) (y:=v) (by rw[De,g1,ac,hv];rfl) (by rw[VS]) (by rw[he])
 | makeInterface t x=>
  simp only[sOp] at hop;obtain⟨hi,hop⟩:=aw hop;obtain⟨v,hv,he⟩:=ai hop;obtain⟨p,g1,k1⟩:=aQ hF hv;refine pure (w:=.iface t v) (y:=.iface t p) ?_ (by rw[VS];exact⟨p,rfl,k1⟩) (by rw[he]);unfold zy at hi
  cases hu:P.underlying t with
  | none=>rw[hu] at hi;cases hi
  | some d=>
   rw[hu] at hi;rw[B8 hu (by cases d<;>first | rfl | cases hi),g1];rfl
 | makeFunc g first cap=>
  cases g with
  | func g=>
   obtain⟨a,ha,hop⟩:=bind_eq_some_iff.1 hop;obtain⟨b,hb,he⟩:=ai hop;obtain⟨p,g1,k1⟩:=fH hF ha;obtain⟨q,g2,k2⟩:=fH hF hb;exact pure (w:=.fn g a b) (y:=.fn (.func g) p q) (by rw[Df,g1,g2];rfl) (by rw[VS];exact⟨p,q,rfl,k1,k2⟩) (by rw[he])
  | method nm=>
   obtain⟨a,ha,hop⟩:=bind_eq_some_iff.1 hop;obtain⟨a2,ha2,hop⟩:=bind_eq_some_iff.1 hop;obtain⟨b,hb,hop⟩:=bind_eq_some_iff.1 hop;obtain⟨b2,hb2,he⟩:=ai hop;obtain⟨p,g1,k1⟩:=fH hF ha;obtain⟨q,g2,k2⟩:=fH hF hb;have e1:=jv k1 ha2;have e2:=jv k2 hb2;subst e1;subst e2;exact pure (w:=.a (.fn (.method nm) p q)) (y:=.fn (.method nm) p q) (by rw[Dh,g1,g2];rfl) (by rw[VS]) (by rw[he])
  | _=>simp[sOp] at hop
 | slice tt x lo hi mx=>
  obtain⟨x',hx,hop⟩:=bind_eq_some_iff.1 hop;obtain⟨lo',hlo,hop⟩:=bind_eq_some_iff.1 hop;obtain⟨hi',hhi,hop⟩:=bind_eq_some_iff.1 hop;obtain⟨mx',hmx,hop⟩:=bind_eq_some_iff.1 hop;obtain⟨v,hv,he⟩:=ai hop;obtain⟨p,g1,k1⟩:=aQ hF hx;obtain⟨y,g2,k2⟩:=A2 (h:=h) k1 hv;refine pure (y:=y) ?_ k2 (by rw[he]);rw[Ca,g1,sV hF hlo,sV hF hhi,sV hF hmx];simp only[ac,g2,aj]
 | fieldAddr s x fl=>
  obtain⟨x',hx,hop⟩:=bind_eq_some_iff.1 hop;obtain⟨v,hv,he⟩:=ai hop;obtain⟨p,g1,k1⟩:=aQ hF hx;obtain⟨y,g2,k2⟩:=ql k1 hv;exact pure (by rw[sN,g1,ac,g2];rfl) k2 (by rw[he])
 | field s x fl=>
  obtain⟨x',hx,hop⟩:=bind_eq_some_iff.1 hop;obtain⟨v,hv,he⟩:=ai hop;obtain⟨p,g1,k1⟩:=aQ hF hx;obtain⟨y,g2,k2⟩:=AM k1 hv;exact pure (by rw[B7,g1,ac,g2];rfl) k2 (by rw[he])
 | indexAddr t x i=>
  obtain⟨x',hx,hop⟩:=bind_eq_some_iff.1 hop;obtain⟨i',hi,hop⟩:=bind_eq_some_iff.1 hop;obtain⟨v,hv,he⟩:=ai hop;obtain⟨p,g1,k1⟩:=aQ hF hx;obtain⟨q,g3,k3⟩:=aQ hF hi;obtain⟨y,g2,k2⟩:=qn k1 k3 hv;exact pure (by rw[sO,g1,g3,ac,ac,g2];rfl) k2 (by rw[he])
 | index t x i=>
  obtain⟨x',hx,hop⟩:=bind_eq_some_iff.1 hop;obtain⟨i',hi,hop⟩:=bind_eq_some_iff.1 hop;obtain⟨v,hv,he⟩:=ai hop;obtain⟨p,g1,k1⟩:=aQ hF hx;obtain⟨q,g3,k3⟩:=aQ hF hi;obtain⟨y,g2,k2⟩:=AN k1 k3 hv;exact pure (by rw[B9,g1,g3,ac,ac,g2];rfl) k2 (by rw[he])
 | lookup t x k ok=>
  obtain⟨x',hx,hop⟩:=bind_eq_some_iff.1 hop;obtain⟨i',hi,hop⟩:=bind_eq_some_iff.1 hop;obtain⟨v,hv,he⟩:=ai hop;obtain⟨p,g1,k1⟩:=aQ hF hx;obtain⟨q,g3,k3⟩:=aQ hF hi;obtain⟨y,g2,k2⟩:=xE hR k1 k3 hv;exact pure (by rw[AW,g1,g3,ac,ac,g2];rfl) k2 (by rw[he])
 | mapUpdate t m k x=>
  obtain⟨m',hm,hop⟩:=bind_eq_some_iff.1 hop;obtain⟨k',hk,hop⟩:=bind_eq_some_iff.1 hop;obtain⟨x',hx,hop⟩:=bind_eq_some_iff.1 hop;obtain⟨S2,hS,he⟩:=ai hop;cases he;obtain⟨p,g1,k1⟩:=aQ hF hm;obtain⟨q,g2,k2⟩:=aQ hF hk;obtain⟨y,g3,k3⟩:=aQ hF hx;obtain⟨h',e1,e2⟩:=pz hR k1 k2 k3 hS;refine⟨none,h',θ,?_,e2,by rw[VS];rfl,λv x h=>h⟩;rw[sP,g1,g2,g3];simp only[ac,e1,aj]
 | insert t m k x=>
  obtain⟨m',hm,hop⟩:=bind_eq_some_iff.1 hop;obtain⟨k',hk,hop⟩:=bind_eq_some_iff.1 hop;obtain⟨x',hx,hop⟩:=bind_eq_some_iff.1 hop;obtain⟨S2,hS,he⟩:=ai hop;cases he;obtain⟨p,g1,k1⟩:=aQ hF hm;obtain⟨q,g2,k2⟩:=aQ hF hk;obtain⟨y,g3,k3⟩:=aQ hF hx;obtain⟨h',e1,e2⟩:=pz hR k1 k2 k3 hS;refine⟨none,h',θ,?_,e2,by rw[VS];rfl,λv x h=>h⟩;simp only[cJ,g1,g2,g3,ac,e1,aj]
 | extract x i=>
  simp only[sOp] at hop;split at hop
  ·rename_i vs hx;obtain⟨v,hv,he⟩:=ai hop;obtain⟨p,g1,k1⟩:=aQ hF hx;rw[VS] at k1;obtain⟨aS,rfl,k1⟩:=k1;obtain⟨y,g2,k2⟩:=k1.get hv;refine pure (y:=y) ?_ k2 (by rw[he]);rw[xP,g1];simp only[rf,g2,aj]
  ·cases hop
 | call c=>
  obtain⟨callee,args,ats⟩:=c
  cases callee with
  | builtin b=>
   obtain⟨xs,hxs,hop⟩:=bind_eq_some_iff.1 hop;obtain⟨p,g1,k1⟩:=fH hF hxs;obtain⟨z,h',θ',e1,e2,e3,e4⟩:=ur hR k1 hop;refine⟨some z,h',θ',?_,e2,e3,e4⟩;rw[xO,g1,ac,e1];rfl
  | _=>simp[sOp] at hop
 | _=>simp[sOp] at hop
end
structure cM where
 f:Fm
 n:Nat
 S:List SO
 ds:List eE
def EA(ds:List eE)(j:Nat):AV:=match ds.reverse[j]? with
 | some d=>match d.fn with
  | some f=>.fn f d.args d.cap
  | none=>e7
 | none=>e7
def od(w:Nat->AV):List eE->Nat->AV
 | [],i=>w i
 | d::ds,i=>if 7000000<=i then EA (d::ds) (i-7000000) else w i
def eN(ρ0:ff)(h0:En)(st:cM)(ast:du):Prop:=ast.n=st.n/\ast.ds=st.ds/\∃θ ρ,RS θ ρ0 ρ h0 ast.h st.S/\FR θ ρ (aC st.f) ast.f st.n (od h0.w ast.ds)
def EK(ρ0:ff)(h0:En)(N:Nat)(Q:Ex->cM->Prop):Ex->du->Prop:=λex ast=>∃st,Q ex st/\st.n=N/\eN ρ0 h0 st ast
def ak(P:Program)(ro:Option Nat)(c:Code)(st:cM)(Q:Ex->cM->Prop):Prop:=∀ρ0 h0 ast,eN ρ0 h0 st ast->fE P ro c ast (EK ρ0 h0 st.n Q)
def aB(P:Program)(ro:Option Nat)(all l:List Oper)(st:cM)(K:cM->Prop):Prop:=∀ρ0 h0 ast,eN ρ0 h0 st ast->eJ P ro all l ast (λast'=>∃st',K st'/\st'.n=st.n/\eN ρ0 h0 st' ast')
section
variable {P:Program} {ro:Option Nat}
def ak.mono{c:Code}{st:cM}{Q Q':Ex->cM->Prop}(h:ak P ro c st Q)(hq:∀e x,Q e x->Q' e x):ak P ro c st Q':=
 λρ0 h0 ast hs=>(h ρ0 h0 ast hs).mono λ_ _ ⟨x,h1,h2⟩=>⟨x,hq _ _ h1,h2⟩
def ak.skip{st:cM}{Q:Ex->cM->Prop}(h:Q .normal st):ak P ro .skip st Q:=λ_ _ _ hs=>.skip ⟨st,h,rfl,hs⟩
def ak.label{l:Nat}{st:cM}{Q:Ex->cM->Prop}(h:Q .normal st):ak P ro (.label l) st Q:=λ_ _ _ hs=>.label ⟨st,h,rfl,hs⟩
def ak.exit{id:Nat}{st:cM}{Q:Ex->cM->Prop}(h:Q (.exit id) st):ak P ro (.exit id) st Q:=λ_ _ _ hs=>.exit ⟨st,h,rfl,hs⟩
def ak.ret{st:cM}{Q:Ex->cM->Prop}(h:Q .ret st):ak P ro .ret st Q:=λ_ _ _ hs=>.ret ⟨st,h,rfl,hs⟩
def SThen(P:Program)(ro:Option Nat)(y:Code)(Q:Ex->cM->Prop):Ex->cM->Prop
 | .normal,st=>ak P ro y st Q
 | e,st=>Q e st
def ak.seq{x y:Code}{st:cM}{Q:Ex->cM->Prop}(h:ak P ro x st (SThen P ro y Q)):ak P ro (.seq x y) st Q:=by
 intro ρ0 h0 ast hs;refine .seq ((h ρ0 h0 ast hs).mono ?_);rintro e a ⟨st',h1,h2,h3⟩
 cases e with
 | normal=>
  have:=h1 ρ0 h0 a h3;rw[h2] at this;exact this
 | _=>exact⟨st',h1,h2,h3⟩
def ak.cond{c:Operand}{x y:Code}{st:cM}{Q:Ex->cM->Prop}{b:Bool}(hc:cT st.f c=some (.a (.bool b)))(h1:b=true->ak P ro x st Q)(h2:b=false->ak P ro y st Q):ak P ro (.cond c x y) st Q:=by
 intro ρ0 h0 ast hs;obtain⟨a1,a2,θ,ρ,hR,hF⟩:=hs;rw[<-a1] at hF;obtain⟨a,ha,ka⟩:=aQ hF hc;rw[VS] at ka;subst ka;refine .cond ha (λh=>h1 h ρ0 h0 ast ⟨a1,a2,θ,ρ,hR,by rw[<-a1];exact hF⟩) (λh=>h2 h ρ0 h0 ast ⟨a1,a2,θ,ρ,hR,by rw[<-a1];exact hF⟩)
def ak.yes{c:Operand}{x y:Code}{st:cM}{Q:Ex->cM->Prop}(hc:cT st.f c=some (.a (.bool true)))(h1:ak P ro x st Q):ak P ro (.cond c x y) st Q:=.cond hc (λ_=>h1) (λh=>by cases h)
def ak.no{c:Operand}{x y:Code}{st:cM}{Q:Ex->cM->Prop}(hc:cT st.f c=some (.a (.bool false)))(h1:ak P ro y st Q):ak P ro (.cond c x y) st Q:=.cond hc (λh=>by cases h) (λ_=>h1)
def dY(id:Nat)(Q:Ex->cM->Prop):Ex->cM->Prop
 | .exit i,st=>if i=id then Q .normal st else Q (.exit i) st
 | e,st=>Q e st
def ak.block{id:Nat}{x:Code}{st:cM}{Q:Ex->cM->Prop}(h:ak P ro x st (dY id Q)):ak P ro (.block id x) st Q:=by
 intro ρ0 h0 ast hs;refine .block ((h ρ0 h0 ast hs).mono ?_);rintro e a ⟨st',h1,h2,h3⟩
 cases e with
 | exit i=>
  simp only[dY] at h1;simp only[Bp];by_cases hi:i=id
  ·rw[t8 hi] at h1 ⊢;exact⟨st',h1,h2,h3⟩
  ·rw[ul hi] at h1 ⊢;exact⟨st',h1,h2,h3⟩
 | _=>exact⟨st',h1,h2,h3⟩
def Fg(st st':cM):Prop:=st'.n=st.n/\∀ρ0 h0 ast,eN ρ0 h0 st ast->eN ρ0 h0 st' ast
def Fg.trans{a b c:cM}(h1:Fg a b)(h2:Fg b c):Fg a c:=⟨h2.1.trans h1.1,λ_ _ _ h=>h2.2 _ _ _ (h1.2 _ _ _ h)⟩
def ak.fg{c:Code}{st st':cM}{Q:Ex->cM->Prop}(hf:Fg st st')(h:ak P ro c st' Q):ak P ro c st Q:=by
 intro ρ0 h0 ast hs;have:=h ρ0 h0 ast (hf.2 _ _ _ hs);rw[hf.1] at this;exact this
def SRound(I:Nat->cM->Prop)(m:Nat)(Q:Ex->cM->Prop):Ex->cM->Prop
 | .normal,st=>∃k st',k<m/\Fg st st'/\I k st'
 | e,st=>Q e st
def ak.loop{x:Code}{st:cM}{Q:Ex->cM->Prop}(I:Nat->cM->Prop)(m:Nat){st0:cM}(hf:Fg st st0)(h0:I m st0)(hn:∀m st',I m st'->st'.n=st.n)(h:∀m st,I m st->ak P ro x st (SRound I m Q)):ak P ro (.loop x) st Q:=by
 intro ρ0 hh ast hs;refine .loop (λm a=>∃st',I m st'/\eN ρ0 hh st' a) m ⟨st0,h0,hf.2 _ _ _ hs⟩ ?_;rintro k a ⟨st1,hI,hst⟩;refine(h k st1 hI ρ0 hh a hst).mono ?_;rintro e a' ⟨st',h1,h2,h3⟩;have hn1:=hn _ _ hI
 cases e with
 | normal=>
  obtain⟨k',st2,hk,hfg,hI2⟩:=h1;exact⟨k',hk,st2,hI2,hfg.2 _ _ _ h3⟩
 | _=>exact⟨st',h1,h2.trans hn1,h3⟩
def SNoGoto(Q:Ex->cM->Prop):Ex->cM->Prop
 | .goto _,_=>False
 | e,st=>Q e st
def ak.scope{x:Code}{st:cM}{Q:Ex->cM->Prop}(h:ak P ro x st (SNoGoto Q)):ak P ro (.scope x) st Q:=by
 intro ρ0 h0 ast hs;refine .scope ((h ρ0 h0 ast hs).mono ?_);rintro e a ⟨st',h1,h2,h3⟩
 cases e with
 | goto l=>exact h1.elim
 | _=>exact⟨st',h1,h2,h3⟩
def ak.region{id:Nat}{ops:Array Oper}{st:cM}{Q:Ex->cM->Prop}(h:aB P ro ops.toList ops.toList st (Q .normal)):ak P ro (.region id ops false) st Q:=by
 intro ρ0 h0 ast hs;obtain⟨f,n,hh,ds⟩:=ast;refine .region ?_;have:=h ρ0 h0 _ hs;intro ops i h1 h2 F n σ a w Q' h3 h4 h5;exact this ops i h1 h2 F n σ a w Q' h3 h4 λst' a' w' σ' h6=>h5 st' a' w' σ' (by obtain⟨x,k1,k2,k3⟩:=h6;exact⟨x,k1,k2,k3⟩)
def mu(ops:List Oper)(f:Fm)(n:Nat)(o:Oper):Option Bool:=match o.guard with
 | none=>some true
 | some (j,want)=>match (ops[j]?).bind (·.dst) with
  | some d=>_root_.cond (blt d n) (match aC f d with
   | .a (.bool b)=>some (b==want)
   | .a (.aO [])=>some false
   | _=>none) none
  | none=>none
def bH{θ:Nat->Loc}{ρ:ff}{ops:List Oper}{f:Fm}{af:Nat->AV}{n:Nat}{wv:Nat->AV}(hF:FR θ ρ (aC f) af n wv){o:Oper}{b:Bool}(h:mu ops f n o=some b):fJ ops af n o=some b:=by
 unfold mu at h;unfold fJ;split at h
 ·rename_i hg;rw[hg];exact h
 ·rename_i j want hg;rw[hg];simp only;split at h
  ·rename_i d hd;obtain⟨hlt,h2⟩:=aw h;have:=hF.v d;rw[t8 (df hlt)] at this;rw[hd];simp only;rw[hlt,ab];split at h2
   ·rename_i hx;rw[hx,VS] at this;rw[this];exact h2
   ·rename_i hx;rw[hx,VS] at this;rw[this];exact h2
   ·cases h2
  ·cases h
def cN(all:List Oper)(n:Nat)(l:List Oper):Bool:=l.all λo=>m9 o.dst n&&(match o.guard with
 | none=>true
 | some (j,_)=>match (all[j]?).bind (·.dst) with
  | some d=>blt d n
  | none=>false)
def sd(want:Bool):SV->Option Bool
 | .a (.bool b)=>some (_root_.cond want b (!b))
 | .a (.aO [])=>some false
 | _=>none
def bB(all:List Oper)(f:Fm)(g:Option (Nat×Bool)):Option Bool:=match g with
 | none=>some true
 | some (j,want)=>(all[j]?).bind λo=>o.dst.bind λd=>sd want (aC f d)
def cI{all:List Oper}{f:Fm}{n:Nat}{o:Oper}{l:List Oper}{b:Bool}(hs:cN all n (o::l)=true)(h:bB all f o.guard=some b):mu all f n o=some b:=by
 unfold cN at hs;rw[cv,a3,a3] at hs;have hs2:=hs.1.2;unfold bB at h;unfold mu
 cases hg:o.guard with
 | none=>rw[hg] at h;exact h
 | some q=>
  obtain⟨j,want⟩:=q;rw[hg] at h hs2;simp only at h hs2 ⊢;obtain⟨oj,hj,h⟩:=bind_eq_some_iff.1 h;obtain⟨d,hd,h⟩:=bind_eq_some_iff.1 h;rw[hj,ac,hd] at hs2 ⊢;simp only at hs2 ⊢;rw[hs2,ab];unfold sd at h;split at h
  ·rename_i b' hb;cases want<;>cases b'<;>exact h
  ·exact h
  ·cases h
def cU{all:List Oper}{n:Nat}{o:Oper}{l:List Oper}(hs:cN all n (o::l)=true):m9 o.dst n=true/\cN all n l=true:=by
 unfold cN at hs ⊢;rw[cv,a3,a3] at hs;exact⟨hs.1.1,hs.2⟩
def sRun(P:Program)(all:List Oper):List Oper->Fm->List SO->List Oper×Fm×List SO
 | [],f,S=>([],f,S)
 | o::l,f,S=>match bB all f o.guard with
  | some true=>match sOp P f S o.op with
   | some q=>sRun P all l (j9 f q.2.2 o.dst q.1) q.2.1
   | none=>(o::l,f,S)
  | some false=>match o.dst with
   | some d=>sRun P all l ((d,.a e7)::f) S
   | none=>(o::l,f,S)
  | none=>(o::l,f,S)
def aB.nil{all:List Oper}{st:cM}{K:cM->Prop}(h:K st):aB P ro all [] st K:=λ_ _ _ hs=>.nil ⟨st,h,rfl,hs⟩
def A0{f:Fm}{S:List SO}{op:Op}{q:SV×List SO×Option Nat}(h:sOp P f S op=some q):lH op=true:=by
 cases op<;>first | rfl | (simp[sOp] at h;done)
def aB.run{all:List Oper}{ds:List eE}{n:Nat}{K:cM->Prop}:∀{l l':List Oper} {f f':Fm} {S S':List SO},cN all n l=true->sRun P all l f S=(l',f',S')->aB P ro all l' ⟨f',n,S',ds⟩ K->aB P ro all l ⟨f,n,S,ds⟩ K
 | [],l',f,f',S,S',_,h,hk=>by
  simp only[sRun,Prod.mk.injEq] at h;obtain⟨rfl,rfl,rfl⟩:=h;exact hk
 | o::l,l',f,f',S,S',hst,h,hk=>by
  have stop:(o::l,f,S)=(l',f',S')->aB P ro all (o::l) ⟨f,n,S,ds⟩ K:=by
   intro e;simp only[Prod.mk.injEq] at e;obtain⟨rfl,rfl,rfl⟩:=e;exact hk
  obtain⟨hd,hst2⟩:=cU hst;unfold sRun at h;split at h
  ·rename_i hw;have hw:=cI hst hw;split at h
   ·rename_i q hop;obtain⟨v,S1,kill⟩:=q;rintro ρ0 h0 ⟨af,n',hh,ds'⟩ ⟨rfl,rfl,θ,ρ,hR,hF⟩;obtain⟨rv,h',θ',e1,e2,e3,e4⟩:=Ep hR hF hop;refine .cons (bH hF hw) (.run (A0 hop) hd e1 ?_);intro x hx;rw[List.mem_singleton.1 hx];refine aB.run hst2 h hk ρ0 h0 _ ⟨rfl,rfl,θ',ρ,e2,?_⟩
    cases hdd:o.dst with
    | none=>exact hF.ez e4
    | some d=>rw[hdd] at hd;cases rv<;>exact hF.kill e4 (df hd) e3
   ·exact stop h
  ·rename_i hw;have hw:=cI hst hw;split at h
   ·rename_i d hdst;rw[hdst] at hd;rintro ρ0 h0 ⟨af,n',hh,ds'⟩ ⟨rfl,rfl,θ,ρ,hR,hF⟩;refine .s hdst (bH hF hw) hd ?_;exact aB.run hst2 h hk ρ0 h0 _ ⟨rfl,rfl,θ,ρ,hR,hF.put (df hd) (by rw[VS])⟩
   ·exact stop h
  ·exact stop h
end
mutual
inductive Wk (S:List SO):SV->SV->Prop
 | any (v:SV):Wk S v .any
 | a (v:AV):Wk S (.a v) (.a v)
 | sl (n e:Nat) (cs:List SV):Wk S (.sl n e cs) (.sl n e cs)
 | im (ks:List AV) (vs:List SV):Wk S (.im ks vs) (.im ks vs)
 | ip (cs:List SV):Wk S (.ip cs) (.ip cs)
 | nil (e:Nat):Wk S (.a (.slice none 0 0 (some 0))) (.sl 0 e [])
 | ptr {o off:Nat} {cs ds:List SV}:S[o]?=some (.cells cs)->aM S (cs.drop off) ds->off<=cs.length->Wk S (.ptr o off) (.ip ds)
 | buf {o n e:Nat} {c:Option Nat} {cs ds:List SV}:S[o]?=some (.cells cs)->aM S (cs.take (n*e)) ds->n*e<=cs.length->Wk S (.buf o n e c) (.sl n e ds)
 | sub {o off n e:Nat} {c:Option Nat} {cs ds:List SV}:S[o]?=some (.cells cs)->aM S ((cs.drop off).take (n*e)) ds->off+n*e<=cs.length->Wk S (.sub o off n e c) (.sl n e ds)
 | e0 (e:Nat):Wk S (.e0 e) (.e0 e)
 | Ft (e:Nat):Wk S (.e0 e) (.sl 0 e [])
 | map {o:Nat} {ks:List AV} {vs ws:List SV} {b:Option (List Nat×Nat)}:S[o]?=some (.map ks vs b)->aM S vs ws->Wk S (.map o) (.im ks ws)
 | ag {cs ds:List SV}:aM S cs ds->Wk S (.ag cs) (.ag ds)
 | aO {cs ds:List SV}:aM S cs ds->Wk S (.aO cs) (.aO ds)
 | fn {g:FuncId} {a b c d:List SV}:aM S a c->aM S b d->Wk S (.fn g a b) (.fn g c d)
 | iface {t:TypeId} {v w:SV}:Wk S v w->Wk S (.iface t v) (.iface t w)
inductive aM (S:List SO):List SV->List SV->Prop
 | nil:aM S [] []
 | cons {v w:SV} {vs ws:List SV}:Wk S v w->aM S vs ws->aM S (v::vs) (w::ws)
end
def iG(θ:Nat->Loc)(ρ:ff)(h:H)(S:List SO):ff:=λid=>match ρ id with
 | some ob=>some ob
 | none=>@ite _ (∃o so,S[o]?=some so/\so≠.gone/\(θ o).id=id) (Classical.propDecidable _) (h.aD.get id) none
section
variable {θ:Nat->Loc} {ρ ρ0:ff} {P:Program} {h0:En} {h:H} {S:List SO}
def jE{id:Nat}{ob:AO}(hi:ρ id=some ob):iG θ ρ h S id=some ob:=by unfold iG;rw[hi]
def lQ(hR:RS θ ρ0 ρ h0 h S){o:Nat}{so:SO}(hS:S[o]?=some so)(hg:so≠.gone):iG θ ρ h S (θ o).id=h.aD.get (θ o).id:=by
 unfold iG
 cases hr:ρ (θ o).id with
 | some ob=>rw[(hR.row _ _ hr).2.1]
 | none=>simp only;rw[t8 ⟨o,so,hS,hg,rfl⟩]
mutual
def Wk.ok(hR:RS θ ρ0 ρ h0 h S):∀{v w:SV} {x:AV},Wk S v w->VS θ ρ v x->GS (iG θ ρ h S) w x
 | _,_,_,.any v,_=>by rw[GS];trivial
 | _,_,_,.a v,hv=>by rw[VS] at hv;rw[GS];exact hv
 | _,_,_,.sl n e cs,hv=>by rw[VS] at hv;exact hv.mono λ_ _ h=>jE h
 | _,_,_,.im ks vs,hv=>by rw[VS] at hv;exact hv.mono λ_ _ h=>jE h
 | _,_,_,.ip cs,hv=>by rw[VS] at hv;exact hv.mono λ_ _ h=>jE h
 | _,_,_,.nil e,hv=>by
  rw[VS] at hv;subst hv;rw[GS];exact .inl ⟨rfl,rfl,none,0,some 0,rfl,λ_=>rfl,λh=>t7 rfl h⟩
 | _,_,_,@Wk.ptr _ o off cs ds hS hw hle,hv=>by
  rw[VS] at hv;subst hv;obtain⟨_,aS,q1,q2,_⟩:=hR.obj o _ hS (λh=>by cases h);rw[GS];refine⟨_,off,aS,aS.length-off,rfl,?_,?_,?_⟩
  ·unfold rowR;rw[lQ hR hS (λh=>by cases h),q1]
  ·rw[q2.length];omega
  ·have:=aM.ok hR hw (q2.drop off);rw[ch (by rw[ci];exact b9 _)];exact this
 | _,_,_,@Wk.buf _ o n e c cs ds hS hw hle,hv=>by
  rw[VS] at hv;subst hv;obtain⟨_,aS,q1,q2,_⟩:=hR.obj o _ hS (λh=>by cases h);rw[GS];refine .inr ⟨_,0,c,aS,rfl,?_,by rw[q2.length];omega,?_⟩
  ·unfold rowR;rw[lQ hR hS (λh=>by cases h),q1]
  ·rw[b8];exact aM.ok hR hw (q2.take _)
 | _,_,_,@Wk.sub _ o off n e c cs ds hS hw hle,hv=>by
  rw[VS] at hv;subst hv;obtain⟨_,aS,q1,q2,_⟩:=hR.obj o _ hS (λh=>by cases h);rw[GS];refine .inr ⟨_,off,c,aS,rfl,?_,by rw[q2.length];omega,?_⟩
  ·unfold rowR;rw[lQ hR hS (λh=>by cases h),q1]
  ·exact aM.ok hR hw ((q2.drop off).take _)
 | _,_,_,.e0 e,hv=>by rw[VS] at hv;rw[GS];exact hv
 | _,_,_,.Ft e,hv=>by
  rw[VS] at hv;obtain⟨o,e',rfl,ho⟩:=hv;rw[GS];exact .inl ⟨rfl,rfl,o,e',some 0,rfl,λ_=>rfl,ho⟩
 | _,_,_,@Wk.map _ o ks vs ws b hS hw,hv=>by
  rw[VS] at hv;subst hv;obtain⟨_,l,c,q1,q2,q3⟩:=hR.obj o _ hS (λh=>by cases h);rw[GS];exact⟨_,l,c,rfl,by rw[lQ hR hS (λh=>by cases h),q1],⟨q2.1,q2.2.1,λp hp=>by cases hp⟩,aM.ok hR hw q3⟩
 | _,_,_,.ag hw,hv=>by rw[VS] at hv;obtain⟨aS,h1,h2⟩:=hv;rw[GS];exact⟨aS,h1,aM.ok hR hw h2⟩
 | _,_,_,.aO hw,hv=>by rw[VS] at hv;obtain⟨aS,h1,h2⟩:=hv;rw[GS];exact⟨aS,h1,aM.ok hR hw h2⟩
 | _,_,_,.fn hw1 hw2,hv=>by rw[VS] at hv;obtain⟨xs,ys,h1,h2,h3⟩:=hv;rw[GS];exact⟨xs,ys,h1,aM.ok hR hw1 h2,aM.ok hR hw2 h3⟩
 | _,_,_,.iface hw,hv=>by rw[VS] at hv;obtain⟨y,h1,h2⟩:=hv;rw[GS];exact⟨y,h1,Wk.ok hR hw h2⟩
def aM.ok(hR:RS θ ρ0 ρ h0 h S):∀{vs ws:List SV} {xs:List AV},aM S vs ws->bK θ ρ vs xs->e9 (iG θ ρ h S) ws xs
 | _,_,_,.nil,hv=>by rw[aI] at hv;rw[dB];exact hv
 | _,_,_,.cons h1 h2,hv=>by
  rw[az] at hv;obtain⟨a,r,rfl,k1,k2⟩:=hv;rw[cF];exact⟨a,r,rfl,Wk.ok hR h1 k1,aM.ok hR h2 k2⟩
end
def RS.sM(hR:RS θ ρ0 ρ h0 h S):RS θ ρ0 ρ h0 h []:=⟨hR.ok,hR.nx,hR.ob,hR.fm,hR.lw,hR.ln,λo so h=>by simp at h,λo o' so so' _ h=>by simp at h,λid ob hi=>⟨(hR.row id ob hi).1,(hR.row id ob hi).2.1,λo so h=>by simp at h⟩,hR.gm⟩
def pG:iG θ ρ h []=ρ:=by
 funext id;unfold iG
 cases hr:ρ id with
 | some ob=>rfl
 | none=>simp only;rw[ul];rintro⟨o,so,h,_⟩;simp at h
def Br(ρ:ff)(h:H):Prop:=∀id ob,ρ id=some ob->id<h.next/\h.aD.get id=some ob
def EG(h:H)(ρ ρ':ff)(h':H):Prop:=∀id ob,ρ' id=some ob->ρ id=some ob\/(h.next<=id/\id<h'.next/\h'.aD.get id=some ob)
def jd(hR:RS θ ρ0 ρ h0 h S):Br (iG θ ρ h S) h:=by
 intro id ob hi;unfold iG at hi
 cases hr:ρ id with
 | some ob'=>rw[hr] at hi;cases hi;exact⟨(hR.row id _ hr).1,(hR.row id _ hr).2.1⟩
 | none=>
  rw[hr] at hi;simp only at hi;split at hi
  ·rename_i hex;obtain⟨o,so,h1,h2,rfl⟩:=hex;obtain⟨⟨k1,k2,k3,_⟩,_⟩:=hR.obj o so h1 h2;exact⟨by rcases k1 with e | e<;>omega,hi⟩
  ·cases hi
def PC(P:Program)(g:FuncId)(args:List SV)(Q:SV->Prop):Prop:=∀ρ h avs,Br ρ h->e9 ρ args avs->
 cx P (.func g) avs h (λv h'=>∃r ρ',Q r/\Over h.next h h'/\EG h ρ ρ' h'/\GS ρ' r v)
mutual
def nb:SV->Bool
 | .any=>true
 | .a _=>true
 | .ag cs=>xw cs
 | .aO cs=>xw cs
 | _=>false
def xw:List SV->Bool
 | []=>true
 | d::ds=>nb d&&xw ds
end
mutual
def GS.flat{ρ':ff}:∀{r:SV} {x:AV},nb r=true->GS ρ' r x->VS θ ρ r x
 | .any,_,_,_=>by rw[VS];trivial
 | .a v,x,_,hg=>by rw[GS] at hg;rw[VS];exact hg
 | .ag cs,x,hf,hg=>by rw[nb] at hf;rw[GS] at hg;obtain⟨aS,h1,h2⟩:=hg;rw[VS];exact⟨aS,h1,e9.flat hf h2⟩
 | .aO cs,x,hf,hg=>by rw[nb] at hf;rw[GS] at hg;obtain⟨aS,h1,h2⟩:=hg;rw[VS];exact⟨aS,h1,e9.flat hf h2⟩
 | .sl _ _ _,_,hf,_=>by simp[nb] at hf
 | .im _ _,_,hf,_=>by simp[nb] at hf
 | .ip _,_,hf,_=>by simp[nb] at hf
 | .ptr _ _,_,hf,_=>by simp[nb] at hf
 | .map _,_,hf,_=>by simp[nb] at hf
 | .buf _ _ _ _,_,hf,_=>by simp[nb] at hf
 | .sub _ _ _ _ _,_,hf,_=>by simp[nb] at hf
 | .e0 _,_,hf,_=>by simp[nb] at hf
 | .fn _ _ _,_,hf,_=>by simp[nb] at hf
 | .iface _ _,_,hf,_=>by simp[nb] at hf
def e9.flat{ρ':ff}:∀{rs:List SV} {xs:List AV},xw rs=true->e9 ρ' rs xs->bK θ ρ rs xs
 | [],xs,_,hg=>by rw[dB] at hg;rw[aI];exact hg
 | d::ds,xs,hf,hg=>by
  rw[xw,a3] at hf;rw[cF] at hg;obtain⟨a,r,rfl,h1,h2⟩:=hg;rw[az];exact⟨a,r,rfl,GS.flat hf.1 h1,e9.flat hf.2 h2⟩
end
def callS(P:Program)(f:Fm)(c:Call):Option (FuncId×List SV):=match c.callee with
 | .value x=>match cT f x with
  | some (.fn g first cap)=>(gF f c.args.toList).map λxs=>(g,(first++xs)++cap)
  | _=>none
 | .invoke r name=>match cT f r with
  | some (.iface t v)=>(ep P t name).bind λg=>(gF f c.args.toList).map λxs=>(g,v::xs)
  | _=>none
 | .builtin _=>none
def oP{f:Fm}{af:Nat->AV}{n:Nat}{wv:Nat->AV}(hF:FR θ ρ (aC f) af n wv){c:Call}{g:FuncId}{vs:List SV}(hc:callS P f c=some (g,vs)):∃xs cap,iT P (cg af n) c=some (.func g,xs,cap)/\bK θ ρ vs (xs++cap):=by
 unfold callS at hc;unfold iT;split at hc
 ·rename_i x hx;rw[hx];simp only;split at hc
  ·rename_i g' first cap hv
   obtain⟨xs,hxs,e⟩:=ai hc;cases e;obtain⟨a,ha,ka⟩:=aQ hF hv;rw[VS] at ka;obtain⟨fs,cs,rfl,k1,k2⟩:=ka;obtain⟨aS,hs,ks⟩:=fH hF hxs;rw[ha];simp only;rw[hs];exact⟨fs++aS,cs,rfl,(k1.app ks).app k2⟩
  ·cases hc
 ·rename_i r name hx;rw[hx];simp only;split at hc
  ·rename_i t v hv;obtain⟨g',hg,hc⟩:=bind_eq_some_iff.1 hc;obtain⟨xs,hxs,e⟩:=ai hc;cases e;obtain⟨a,ha,ka⟩:=aQ hF hv;rw[VS] at ka;obtain⟨y,rfl,k1⟩:=ka;obtain⟨aS,hs,ks⟩:=fH hF hxs;rw[ha];simp only;rw[hg,ac,hs];refine⟨y::aS,[],rfl,?_⟩;rw[List.append_nil,az];exact⟨y,aS,rfl,k1,ks⟩
  ·cases hc
 ·cases hc
def gO.mono{ρ':ff}{h':H}{L:Loc}{so:SO}(hx:gO θ ρ h L so)(hm:∀id ob,ρ id=some ob->ρ' id=some ob)(ho:h'.aD.get L.id=h.aD.get L.id)(hf:h'.bW.get L.aX=h.bW.get L.aX):gO θ ρ' h' L so:=by
 cases so with
 | cells cs=>obtain⟨aS,h1,h2,h3⟩:=hx;exact⟨aS,by rw[ho];exact h1,h2.mono hm,by rw[hf];exact h3⟩
 | map ks vs b=>obtain⟨l,c,h1,h2,h3⟩:=hx;exact⟨l,c,by rw[ho];exact h1,h2,h3.mono hm⟩
 | iter m bs c pos=>obtain⟨mid,h1,h2⟩:=hx;exact⟨mid,h1.mono hm,by rw[ho];exact h2⟩
 | kT ks vs bs c pos=>obtain⟨mid,l,h1,h2,h3,h4⟩:=hx;exact⟨mid,l,hm _ _ h1,h2,h3.mono hm,by rw[ho];exact h4⟩
 | gone=>trivial
 | loop c ls p f=>
  obtain⟨h1,h2,h3⟩:=hx;exact⟨h1,by rw[ho];exact h2,λi hi=>(h3 i hi).mono hm⟩
 | ik N=>exact⟨hx.1,by rw[ho];exact hx.2⟩
def vD(h:H)(ρ ρ':ff):ff:=λid=>if id<h.next then ρ id else ρ' id
def RS.call{ρ':ff}{h':H}(hR:RS θ ρ0 ρ h0 h S)(ho:Over h.next h h')(hn:EG h ρ ρ' h'):RS θ ρ0 (vD h ρ ρ') h0 h' S/\(∀id ob,ρ id=some ob->vD h ρ ρ' id=some ob)/\∀id ob,ρ' id=some ob->vD h ρ ρ' id=some ob:=by
 have hold:∀id ob,ρ id=some ob->vD h ρ ρ' id=some ob:=by
  intro id ob hi;unfold vD;rw[t8 (hR.row id ob hi).1];exact hi
 have hlw:h'.low=h.low:=ho.low hR.ln;have hpr:∀j,h0.pr j->j<h.next:=λj hj=>ay (hR.ok.pr j hj) hR.nx;have hpf:∀j,h0.pf j->j<h.next:=λj hj=>ay (hR.ok.pf j hj) hR.nx;refine⟨⟨hR.ok,be hR.nx ho.next,λj hj=>(ho.aD j (hpr j hj)).trans (hR.ob j hj),λj hj=>(ho.bW j (hpf j hj)).trans (hR.fm j hj),by rw[hlw];exact hR.lw,by rw[hlw];exact be hR.ln ho.next,?_,hR.sep,?_,?_⟩,hold,?_⟩
 ·intro o so h1 h2;obtain⟨k,k2⟩:=hR.obj o so h1 h2;refine⟨k.mono ho.next,?_⟩
  have hid:(θ o).id<h.next:=by rcases k.e with e | e<;>rw[e];exact k.x.2;exact k.y.2
  exact k2.mono hold (ho.aD _ hid) (ho.bW _ k.f.2)
 ·intro id ob hi;unfold vD at hi;split at hi
  ·rename_i hlt;obtain⟨r1,r2,r3⟩:=hR.row id ob hi;exact⟨ay r1 ho.next,by rw[ho.aD id r1];exact r2,r3⟩
  ·rename_i hlt
   rcases hn id ob hi with e | ⟨e1,e2,e3⟩
   ·exact t7 (hR.row id ob e).1 hlt
   ·refine⟨e2,e3,λo so h1 h2=>?_⟩;obtain⟨k,_⟩:=hR.obj o so h1 h2;have:=k.x.2;have:=k.y.2;omega
 ·intro id ob hi;unfold vD at hi;split at hi
  ·exact hR.gm id ob hi
  ·exact .inr (λhj=>by have:=hpr id hj;omega)
 ·intro id ob hi;unfold vD;split
  ·rename_i hlt
   rcases hn id ob hi with e | ⟨e1,_⟩
   ·exact e
   ·omega
  ·exact hi
def FR.mono{ρ':ff}{f:Nat->SV}{af:Nat->AV}{n:Nat}{wv:Nat->AV}(hF:FR θ ρ f af n wv)(hm:∀id ob,ρ id=some ob->ρ' id=some ob):FR θ ρ' f af n wv:=⟨λi=>(hF.v i).mono hm,hF.u⟩
def aB.call{ro:Option Nat}{all:List Oper}{o:Oper}{l:List Oper}{f:Fm}{n:Nat}{ds:List eE}{K:cM->Prop}{d:Nat}{c:Call}{g:FuncId}{vs ws:List SV}{Q:SV->Prop}(hop:o.op=.call c)(hdst:o.dst=some d)(hw:mu all f n o=some true)(hdy:dg (.call c)=true)(hd:blt d n=true)
 (hc:callS P f c=some (g,vs)) (hq:PC P g ws Q) (hwk:aM S vs ws) (hfl:(∀r,Q r->nb r=true)\/aM [] vs ws) (hk:∀r,Q r->aB P ro all l ⟨(d,r)::f,n,S,ds⟩ K):aB P ro all (o::l) ⟨f,n,S,ds⟩ K:=by
 rintro ρ0 h0 ⟨af,n',h,ds'⟩ ⟨rfl,rfl,θ,ρ,hR,hF⟩;obtain⟨xs,cap,h1,h2⟩:=oP hF hc
 rcases hfl with hfl | hfl
 ·refine .c hop hdst (bH hF hw) hdy hd h1 rfl (hq _ _ _ (jd hR) (hwk.ok hR h2)) ?_;rintro v h' ⟨r,ρ',k1,k2,k3,k4⟩;obtain⟨j1,j2,_⟩:=hR.call (ρ':=λ_=>none) k2 (λid ob hi=>by cases hi);exact hk r k1 ρ0 h0 _ ⟨rfl,rfl,θ,_,j1,(hF.mono j2).put (df hd) (k4.flat (hfl r k1))⟩
 ·have:=hfl.ok hR.sM h2;rw[pG] at this;refine .c hop hdst (bH hF hw) hdy hd h1 rfl (hq _ _ _ (λid ob hi=>⟨(hR.row id ob hi).1,(hR.row id ob hi).2.1⟩) this) ?_;rintro v h' ⟨r,ρ',k1,k2,k3,k4⟩;obtain⟨j1,j2,j3⟩:=hR.call k2 k3;exact hk r k1 ρ0 h0 _ ⟨rfl,rfl,θ,_,j1,(hF.mono j2).put (df hd) ((k4.mono j3).vs)⟩
end
def fa:Nat->List SV->Fm
 | _,[]=>[]
 | i,v::vs=>(i,v)::fa (i+1) vs
def kZ:∀(vs:List SV) (i j:Nat),aC (fa i vs) j=if i<=j then (match vs[j-i]? with | some v=>v | none=>.any) else .any
 | [],i,j=>by simp[fa,aC]
 | v::vs,i,j=>by
  show(if i=j then v else aC (fa (i+1) vs) j)=_;rw[kZ vs (i+1) j];by_cases h:i=j
  ·subst h;simp
  ·rw[ul h];by_cases h2:i<=j
   ·rw[t8 (by omega),t8 h2];obtain⟨k,hk⟩:∃k,j-i=k+1:=⟨j-i-1,by omega⟩;rw[hk,bk,show j-(i+1)=k by omega]
   ·rw[ul (by omega),ul h2]
def gB(P:Program)(f:Fm)(S:List SO):List ResultVar->Option (List SV)
 | []=>some []
 | .tmp i::l=>(cT f (.tmp i)).bind λv=>(gB P f S l).map λb=>v::b
 | .cell a t::l=>(cT f (.tmp a)).bind λx=>(loadS P S t x).bind λv=>(gB P f S l).map λb=>v::b
def bL:List SV->SV
 | [v]=>v
 | vs=>.aO vs
def kr(P:Program)(fn:Func)(Q:SV->Prop):Ex->cM->Prop:=λe st=>fj e=true/\st.ds=[]/\∃vs r,gB P st.f st.S fn.results.toList=some vs/\Wk st.S (bL vs) r/\Q r
section
variable {P:Program}
def lN{θ:Nat->Loc}{ρ ρ0:ff}{h0:En}{h:H}{S:List SO}(hR:RS θ ρ0 ρ h0 h S){f:Fm}{af:Nat->AV}{n:Nat}{wv:Nat->AV}(hF:FR θ ρ (aC f) af n wv):∀{l:List ResultVar} {vs:List SV},gB P f S l=some vs->∃aS,(l.mapM λ
 | ResultVar.tmp i=>ev (cg af n) (.tmp i)
 | ResultVar.cell a tt=>match ev (cg af n) (.tmp a) with
  | some (.ptr (some (id,off)))=>h.load P tt id off
  | _=>none)=some aS/\bK θ ρ vs aS
 | [],vs,hv=>by
  simp only[gB,Option.some.injEq] at hv;subst hv;exact⟨[],rfl,by rw[aI]⟩
 | .tmp i::l,vs,hv=>by
  rw[gB] at hv;obtain⟨v0,hv0,hv⟩:=bind_eq_some_iff.1 hv;obtain⟨b,hb,rfl⟩:=ai hv;obtain⟨aS,h1,h2⟩:=lN hR hF hb;obtain⟨a,ha,ka⟩:=aQ hF (x:=.tmp i) hv0;refine⟨a::aS,?_,by rw[az];exact⟨a,aS,rfl,ka,h2⟩⟩;rw[d0];simp only[ha,h1];rfl
 | .cell a t::l,vs,hv=>by
  rw[gB] at hv;obtain⟨v0,hv0,hv⟩:=bind_eq_some_iff.1 hv;obtain⟨v,hv1,hv⟩:=bind_eq_some_iff.1 hv;obtain⟨b,hb,rfl⟩:=ai hv;obtain⟨aS,h1,h2⟩:=lN hR hF hb;obtain⟨p,hp,kp⟩:=aQ hF (x:=.tmp a) hv0;obtain⟨y,hy,ky⟩:=vb hR kp hv1;refine⟨y::aS,?_,by rw[az];exact⟨y,aS,rfl,ky,h2⟩⟩;rw[d0];simp only[hp,h1];unfold sI at hy;split at hy
  ·rename_i he;cases he;simp only[hy];rfl
  ·cases hy
def CE:List AV->AV
 | [v]=>v
 | vs=>.aO vs
def Ae{θ:Nat->Loc}{ρ:ff}{vs:List SV}{aS:List AV}(h:bK θ ρ vs aS):VS θ ρ (bL vs) (CE aS):=by
 match vs,h with
 | [],h=>rw[aI] at h;subst h;simp only[bL];rw[VS];exact⟨[],rfl,by rw[aI]⟩
 | [v],h=>
  rw[az] at h;obtain⟨a,r,rfl,h1,h2⟩:=h;rw[aI] at h2;subst h2;exact h1
 | v::w::vs,h=>
  have h':=h;rw[az] at h;obtain⟨a,r,rfl,h1,h2⟩:=h;rw[az] at h2;obtain⟨b,r2,rfl,h3,h4⟩:=h2;simp only[bL];rw[VS];exact⟨_,rfl,h'⟩
end
section
variable {θ:Nat->Loc} {ρ ρ0:ff} {P:Program} {h0:En} {h:H} {S S':List SO}
def HasS(f:Fm):Fm->Prop
 | []=>True
 | (i,v)::l=>aC f i=v/\HasS f l
def oH(S:List SO):List SO->Nat->Prop
 | [],_=>True
 | s::l,k=>(s=.gone\/S[k]?=some s)/\oH S l (k+1)
def oH.get:∀{l:List SO} {k:Nat},oH S l k->∀{o:Nat} {so:SO},l[o]?=some so->so≠.gone->S[k+o]?=some so
 | [],_,_,o,so,h,_=>by simp at h
 | s::l,k,hs,o,so,h,hg=>by
  obtain⟨h1,h2⟩:=hs
  cases o with
  | zero=>
   simp only[bt,Option.some.injEq] at h;subst h;exact h1.resolve_left hg
  | succ o=>
   simp only[bk] at h;have:=oH.get h2 h hg;rw[show k+(o+1)=k+1+o by omega];exact this
def RS.sub(hR:RS θ ρ0 ρ h0 h S)(hs:∀(o:Nat) (so:SO),S'[o]?=some so->so≠.gone->S[o]?=some so):RS θ ρ0 ρ h0 h S':=
 ⟨hR.ok,hR.nx,hR.ob,hR.fm,hR.lw,hR.ln,λo so h1 h2=>hR.obj o so (hs o so h1 h2) h2,λo o' so so' h h1 h2 h3 h4=>hR.sep o o' so so' h (hs o so h1 h2) h2 (hs o' so' h3 h4) h4,
  λid ob hi=>⟨(hR.row id ob hi).1,(hR.row id ob hi).2.1,λo so h1 h2=>(hR.row id ob hi).2.2 o so (hs o so h1 h2) h2⟩,hR.gm⟩
def HasS.get{f:Fm}:∀{f':Fm},HasS f f'->∀i,aC f' i=aC f i\/aC f' i=.any
 | [],_,i=>.inr rfl
 | (d,v)::l,h,i=>by
  obtain⟨h1,h2⟩:=h;show(if d=i then v else aC l i)=_\/(if d=i then v else aC l i)=_;by_cases e:d=i
  ·subst e;rw[t8 rfl];exact .inl h1.symm
  ·rw[ul e];exact HasS.get h2 i
def Fg.less{f f':Fm}{n:Nat}{ds:List eE}(hf:HasS f f')(hs:oH S S' 0):Fg ⟨f,n,S,ds⟩ ⟨f',n,S',ds⟩:=by
 refine⟨rfl,?_⟩;rintro ρ0 h0 ⟨af,n',h,ds'⟩ ⟨rfl,rfl,θ,ρ,hR,hF⟩;refine⟨rfl,rfl,θ,ρ,hR.sub λo so h1 h2=>by have:=hs.get h1 h2;rw[cb] at this;exact this,λi=>?_,hF.u⟩
 rcases hf.get i with e | e
 ·rw[e];exact hF.v i
 ·rw[e,VS];trivial
def gH(o:Nat)(so:SO):List SO:=d1 o .gone++[so]
def jX{o p:Nat}{so s:SO}(h:(gH o so)[p]?=some s)(hg:s≠.gone):p=o/\s=so:=by
 unfold gH at h;rw[co] at h;split at h
 ·rename_i hl;rw[cn] at hl;rw[List.getElem?_replicate,t8 hl] at h;cases h;exact t7 rfl hg
 ·rename_i hl;rw[cn] at hl h
  have:p-o=0:=by
   apply Decidable.byContradiction;intro hn;rw[bb (by simp;omega)] at h;cases h
  rw[this] at h;simp only[bt,Option.some.injEq] at h;exact⟨by omega,h.symm⟩
def HasW(S:List SO)(f:Fm):Fm->Prop
 | []=>True
 | (i,v)::l=>(aC f i=v\/Wk S (aC f i) v)/\HasW S f l
def HasW.get{f:Fm}:∀{f':Fm},HasW S f f'->∀i,aC f' i=aC f i\/Wk S (aC f i) (aC f' i)
 | [],_,i=>.inr (.any _)
 | (d,v)::l,h,i=>by
  obtain⟨h1,h2⟩:=h;show(if d=i then v else aC l i)=_\/Wk S _ (if d=i then v else aC l i);by_cases e:d=i
  ·subst e;rw[t8 rfl]
   rcases h1 with h1 | h1
   ·exact .inl h1.symm
   ·exact .inr h1
  ·rw[ul e];exact HasW.get h2 i
def Fg.freeze{f f':Fm}{n:Nat}{ds:List eE}(o:Nat){so:SO}(hS:S[o]?=some so)(hg:so≠.gone)(hf:HasW (gH o so) f f'):Fg ⟨f,n,S,ds⟩ ⟨f',n,S.set o .gone,ds⟩:=by
 refine⟨rfl,?_⟩;rintro ρ0 h0 ⟨af,n',h,ds'⟩ ⟨rfl,rfl,θ,ρ,hR,hF⟩
 have hsub:∀(p:Nat) (s:SO),(gH o so)[p]?=some s->s≠.gone->S[p]?=some s:=by
  intro p s h1 h2;obtain⟨rfl,rfl⟩:=jX h1 h2;exact hS
 have hR1:=hR.sub hsub
 have hset:∀(p:Nat) (s:SO),(S.set o .gone)[p]?=some s->s≠.gone->S[p]?=some s/\p≠o:=by
  intro p s h1 h2;by_cases hp:p=o
  ·subst hp;rw[a8 (aE hS)] at h1;cases h1;exact t7 rfl h2
  ·rw[bd (λe=>hp e.symm)] at h1;exact⟨h1,hp⟩
 have hR2:=hR.sub (S':=S.set o .gone) λp s h1 h2=>(hset p s h1 h2).1;have hm:∀id ob,ρ id=some ob->iG θ ρ h (gH o so) id=some ob:=λid ob hi=>jE hi
 have key:∀id ob,iG θ ρ h (gH o so) id=some ob->ρ id=some ob\/id=(θ o).id:=by
  intro id ob hi;unfold iG at hi
  cases hr:ρ id with
  | some ob'=>rw[hr] at hi;exact .inl hi
  | none=>
   rw[hr] at hi;simp only at hi;split at hi
   ·rename_i hex;obtain⟨p,s,q1,q2,rfl⟩:=hex;obtain⟨rfl,_⟩:=jX q1 q2;exact .inr rfl
   ·cases hi
 refine⟨rfl,rfl,θ,iG θ ρ h (gH o so),⟨hR2.ok,hR2.nx,hR2.ob,hR2.fm,hR2.lw,hR2.ln,?_,hR2.sep,?_,?_⟩,λi=>?_,hF.u⟩
 ·intro p s h1 h2;obtain⟨k,k2⟩:=hR2.obj p s h1 h2;exact⟨k,k2.mono hm rfl rfl⟩
 ·intro id ob hi;obtain⟨r1,r2⟩:=jd hR1 id ob hi;refine⟨r1,r2,λp s h1 h2=>?_⟩
  rcases key id ob hi with e | e
  ·exact(hR2.row id ob e).2.2 p s h1 h2
  ·subst e;obtain⟨g1,g2⟩:=hset p s h1 h2;have sp:=hR.sep p o s so g2 g1 h2 hS hg;obtain⟨k,_⟩:=hR.obj o so hS hg
   rcases k.e with e | e<;>rw[e]
   ·exact⟨sp.xx.symm,sp.yx.symm⟩
   ·exact⟨sp.xy.symm,sp.yy.symm⟩
 ·intro id ob hi
  rcases key id ob hi with e | e
  ·exact hR.gm id ob e
  ·subst e;obtain⟨k,_⟩:=hR.obj o so hS hg;exact .inr (by rcases k.e with e | e<;>rw[e];exact k.x.1;exact k.y.1)
 ·rcases hf.get i with e | e
  ·rw[e];exact(hF.v i).mono hm
  ·exact(e.ok hR1 (hF.v i)).vs
mutual
def gw:SV->Bool
 | .a _=>true
 | .sl _ _ _=>true
 | .im _ _=>true
 | .ip _=>true
 | .any=>true
 | .e0 _=>true
 | .ag cs=>bm cs
 | .aO cs=>bm cs
 | .fn _ a b=>bm a&&bm b
 | .iface _ v=>gw v
 | _=>false
def bm:List SV->Bool
 | []=>true
 | d::ds=>gw d&&bm ds
end
mutual
def Wk.refl:∀{v:SV},gw v=true->Wk S v v
 | .a v,_=>.a v
 | .sl n e cs,_=>.sl n e cs
 | .im ks vs,_=>.im ks vs
 | .ip cs,_=>.ip cs
 | .any,_=>.any _
 | .e0 e,_=>.e0 e
 | .sub _ _ _ _ _,h=>by simp[gw] at h
 | .ag cs,h=>.ag (aM.refl (by rw[gw] at h;exact h))
 | .aO cs,h=>.aO (aM.refl (by rw[gw] at h;exact h))
 | .fn g a b,h=>by rw[gw,a3] at h;exact .fn (aM.refl h.1) (aM.refl h.2)
 | .iface t v,h=>.iface (Wk.refl (by rw[gw] at h;exact h))
 | .ptr _ _,h=>by simp[gw] at h
 | .map _,h=>by simp[gw] at h
 | .buf _ _ _ _,h=>by simp[gw] at h
def aM.refl:∀{vs:List SV},bm vs=true->aM S vs vs
 | [],_=>.nil
 | d::ds,h=>by rw[bm,a3] at h;exact .cons (Wk.refl h.1) (aM.refl h.2)
end
def aM.app:∀{a b c d:List SV},aM S a c->aM S b d->aM S (a++b) (c++d)
 | _,_,_,_,.nil,h=>h
 | _,_,_,_,.cons h1 h2,h=>.cons h1 (aM.app h2 h)
end
end
end Go.Ev
namespace Go.Proofs
open Go.Ev
section
variable (P:Program) (t:Nat)
abbrev fS(n:Nat)(z:List AV):Prop:=aU P t=some (n,true)/\bT P t=some (.agg z)/\CQ P t=some none/\DD P t=none/\iS P t=true
abbrev fL(e n:Nat):Prop:=aU P t=some (1,false)/\bT P t=some (.slice none 0 0 (some 0))/\xo P t=some (e,n)/\DD P t=none/\dX P t=.sl/\iS P t=true
abbrev fA(n k e s:Nat)(z:AV):Prop:=aU P t=some (n,true)/\bT P t=some (.agg (d1 k z))/\DD P t=some (k,e,s)/\CQ P t=some (some s)/\dX P t=.other
abbrev fM(k e:Nat):Prop:=aU P t=some (1,false)/\bT P t=some (.map none)/\bP P t=some (k,e)/\dX P t=.map
abbrev fT:Prop:=aU P t=some (1,false)/\bT P t=some (.str [])/\dX P t=.str/\iS P t=true
abbrev fI(k:IntKind):Prop:=aU P t=some (1,false)/\bT P t=some (.int k 0)/\iS P t=true/\dX P t=.other/\isInt P t=true
abbrev fB(z:AV):Prop:=aU P t=some (1,false)/\bT P t=some z/\iS P t=true
end
abbrev tq0(P:Program):Prop:=aU P 1=some (1,false)/\fI P 2 .i64/\fI P 3 .i64/\fB P 4 (.bool false)/\fI P 5 .u8/\fT P 9/\fI P 21 .i32/\fL P 22 63 3/\fS P 23 1 [.slice none 0 0 (some 0)]/\aG P 23 0=some (0,22,1)/\fS P 24 1 [.slice none 0 0 (some 0)]/\aG P 24 0=some (0,22,1)/\fL P 25 27 3/\fS P 26 3 [.int .i64 0,.int .i64 0,.slice none 0 0 (some 0)]/\aG P 26 0=some (0,3,1)/\aG P 26 1=some (1,3,1)/\aG P 26 2=some (2,25,1)/\fS P 27 3 [.int .i64 0,.int .i64 0,.slice none 0 0 (some 0)]/\aG P 27 0=some (0,3,1)/\aG P 27 1=some (1,3,1)/\aG P 27 2=some (2,25,1)/\fS P 28 4 [.slice none 0 0 (some 0),.int .i64 0,.int .i64 0,.slice none 0 0 (some 0)]/\aG P 28 0=some (0,24,1)/\aG P 28 1=some (1,27,3)/\fS P 29 4 [.slice none 0 0 (some 0),.int .i64 0,.int .i64 0,.slice none 0 0 (some 0)]/\aG P 29 0=some (0,24,1)/\aG P 29 1=some (1,27,3)
def wI:tq0 ba:=by
 (repeat' apply ax)<;>kernel_rfl
abbrev tq1(P:Program):Prop:=fL P 30 94 5/\fL P 31 38 2/\fS P 32 4 [.str [],.str [],.int .i64 0,.int .i64 0]/\aG P 32 0=some (0,9,1)/\aG P 32 1=some (1,9,1)/\aG P 32 2=some (2,3,1)/\aG P 32 3=some (3,3,1)/\fS P 33 4 [.str [],.str [],.int .i64 0,.int .i64 0]/\aG P 33 0=some (0,9,1)/\aG P 33 1=some (1,9,1)/\aG P 33 2=some (2,3,1)/\aG P 33 3=some (3,3,1)/\aU P 34=some (1,false)/\aU P 35=some (1,false)/\fL P 36 69 14/\fS P 37 2 [.slice none 0 0 (some 0),.bool false]/\aG P 37 0=some (0,36,1)/\aG P 37 1=some (1,4,1)/\fS P 38 2 [.slice none 0 0 (some 0),.bool false]/\aG P 38 0=some (0,36,1)/\aG P 38 1=some (1,4,1)/\fL P 39 3 1/\fI P 40 .i64/\aU P 42=some (1,false)/\fL P 43 48 2
def wJ:tq1 ba:=by
 (repeat' apply ax)<;>kernel_rfl
abbrev tq2(P:Program):Prop:=aU P 45=some (1,false)/\aU P 46=some (1,false)/\fS P 47 2 [.str [],.int .i64 0]/\aG P 47 0=some (0,9,1)/\aG P 47 1=some (1,3,1)/\fS P 48 2 [.str [],.int .i64 0]/\aG P 48 0=some (0,9,1)/\aG P 48 1=some (1,3,1)/\aU P 49=some (1,false)/\aU P 51=some (1,false)/\aU P 53=some (1,false)/\fL P 54 99 14/\fS P 55 1 [.slice none 0 0 (some 0)]/\aG P 55 0=some (0,54,1)/\fS P 56 1 [.slice none 0 0 (some 0)]/\aG P 56 0=some (0,54,1)/\aU P 57=some (1,false)/\fL P 58 9 1/\fS P 59 3 [.str [],.slice none 0 0 (some 0),.int .i64 0]/\aG P 59 0=some (0,9,1)/\aG P 59 1=some (1,58,1)/\aG P 59 2=some (2,3,1)/\fS P 60 3 [.str [],.slice none 0 0 (some 0),.int .i64 0]/\aG P 60 0=some (0,9,1)/\aG P 60 1=some (1,58,1)/\aG P 60 2=some (2,3,1)
def wK:tq2 ba:=by
 (repeat' apply ax)<;>kernel_rfl
abbrev tq3(P:Program):Prop:=fL P 61 60 3/\fS P 62 3 [.str [],.bool false,.slice none 0 0 (some 0)]/\aG P 62 0=some (0,9,1)/\aG P 62 1=some (1,4,1)/\aG P 62 2=some (2,61,1)/\fS P 63 3 [.str [],.bool false,.slice none 0 0 (some 0)]/\aG P 63 0=some (0,9,1)/\aG P 63 1=some (1,4,1)/\aG P 63 2=some (2,61,1)/\fS P 64 2 [.int .i64 0,.int .i64 0]/\aG P 64 0=some (0,3,1)/\aG P 64 1=some (1,3,1)/\fS P 65 2 [.int .i64 0,.int .i64 0]/\aG P 65 0=some (0,3,1)/\aG P 65 1=some (1,3,1)/\fS P 66 6 [.int .i64 0,.int .i64 0,.int .i64 0,.int .i64 0,.int .i64 0,.int .i64 0]/\aG P 66 0=some (0,65,2)/\aG P 66 1=some (2,65,2)/\aG P 66 2=some (4,65,2)/\fS P 67 6 [.int .i64 0,.int .i64 0,.int .i64 0,.int .i64 0,.int .i64 0,.int .i64 0]/\aG P 67 0=some (0,65,2)/\aG P 67 1=some (2,65,2)/\aG P 67 2=some (4,65,2)/\fS P 68 14 [.int .i64 0,.int .i64 0,.str [],.str [],.str [],.str [],.str [],.str [],.int .i64 0,.int .i64 0,.int .i64 0,.int .i64 0,.int .i64 0,.int .i64 0]/\aG P 68 0=some (0,3,1)/\aG P 68 1=some (1,3,1)/\aG P 68 2=some (2,9,1)/\aG P 68 3=some (3,9,1)/\aG P 68 4=some (4,9,1)/\aG P 68 5=some (5,9,1)/\aG P 68 6=some (6,9,1)/\aG P 68 7=some (7,9,1)/\aG P 68 8=some (8,67,6)
def wL:tq3 ba:=by
 (repeat' apply ax)<;>kernel_rfl
abbrev tq4(P:Program):Prop:=fS P 69 14 [.int .i64 0,.int .i64 0,.str [],.str [],.str [],.str [],.str [],.str [],.int .i64 0,.int .i64 0,.int .i64 0,.int .i64 0,.int .i64 0,.int .i64 0]/\aG P 69 0=some (0,3,1)/\aG P 69 1=some (1,3,1)/\aG P 69 2=some (2,9,1)/\aG P 69 3=some (3,9,1)/\aG P 69 4=some (4,9,1)/\aG P 69 5=some (5,9,1)/\aG P 69 6=some (6,9,1)/\aG P 69 7=some (7,9,1)/\aG P 69 8=some (8,67,6)/\aU P 70=some (1,false)/\aU P 71=some (1,false)/\aU P 72=some (1,false)/\aU P 73=some (1,false)/\aU P 74=some (1,false)/\aU P 75=some (1,false)/\fL P 76 39 1/\aU P 78=some (1,false)/\aU P 80=some (1,false)/\aU P 81=some (1,false)/\aU P 82=some (1,false)/\aU P 83=some (1,false)/\fL P 84 88 1/\aU P 86=some (1,false)/\fM P 87 9 3
def wM:tq4 ba:=by
 (repeat' apply ax)<;>kernel_rfl
abbrev tq5(P:Program):Prop:=fM P 88 9 3/\aU P 90=some (1,false)/\aU P 91=some (1,false)/\aU P 92=some (1,false)/\fS P 93 5 [.str [],.str [],.int .i64 0,.int .i64 0,.int .i64 0]/\aG P 93 0=some (0,9,1)/\aG P 93 1=some (1,9,1)/\aG P 93 2=some (2,3,1)/\aG P 93 3=some (3,3,1)/\aG P 93 4=some (4,3,1)/\fS P 94 5 [.str [],.str [],.int .i64 0,.int .i64 0,.int .i64 0]/\aG P 94 0=some (0,9,1)/\aG P 94 1=some (1,9,1)/\aG P 94 2=some (2,3,1)/\aG P 94 3=some (3,3,1)/\aG P 94 4=some (4,3,1)/\fS P 95 6 [.int .i64 0,.int .i64 0,.int .i64 0,.int .i64 0,.int .i64 0,.int .i64 0]/\aG P 95 0=some (0,65,2)/\aG P 95 1=some (2,65,2)/\aG P 95 2=some (4,65,2)/\fS P 96 6 [.int .i64 0,.int .i64 0,.int .i64 0,.int .i64 0,.int .i64 0,.int .i64 0]/\aG P 96 0=some (0,65,2)/\aG P 96 1=some (2,65,2)/\aG P 96 2=some (4,65,2)/\fL P 97 169 2
def wN:tq5 ba:=by
 (repeat' apply ax)<;>kernel_rfl
abbrev tq6(P:Program):Prop:=fS P 98 14 [.str [],.str [],.str [],.str [],.int .i64 0,.int .i64 0,.bool false,.slice none 0 0 (some 0),.int .i64 0,.int .i64 0,.int .i64 0,.int .i64 0,.int .i64 0,.int .i64 0]/\aG P 98 0=some (0,9,1)/\aG P 98 1=some (1,9,1)/\aG P 98 2=some (2,9,1)/\aG P 98 3=some (3,9,1)/\aG P 98 4=some (4,3,1)/\aG P 98 5=some (5,3,1)/\aG P 98 6=some (6,4,1)/\aG P 98 7=some (7,97,1)/\aG P 98 8=some (8,96,6)/\fS P 99 14 [.str [],.str [],.str [],.str [],.int .i64 0,.int .i64 0,.bool false,.slice none 0 0 (some 0),.int .i64 0,.int .i64 0,.int .i64 0,.int .i64 0,.int .i64 0,.int .i64 0]/\aG P 99 0=some (0,9,1)/\aG P 99 1=some (1,9,1)/\aG P 99 2=some (2,9,1)/\aG P 99 3=some (3,9,1)/\aG P 99 4=some (4,3,1)/\aG P 99 5=some (5,3,1)/\aG P 99 6=some (6,4,1)/\aG P 99 7=some (7,97,1)/\aG P 99 8=some (8,96,6)/\aU P 100=some (1,false)/\aU P 101=some (1,false)/\aU P 102=some (1,false)/\aU P 103=some (1,false)/\aU P 104=some (1,false)
def wO:tq6 ba:=by
 (repeat' apply ax)<;>kernel_rfl
abbrev tq7(P:Program):Prop:=aU P 105=some (1,false)/\aU P 106=some (1,false)/\aU P 107=some (1,false)/\aU P 108=some (1,false)/\aU P 109=some (1,false)/\aU P 111=some (1,false)/\aU P 112=some (1,false)/\aU P 113=some (1,false)/\aU P 114=some (1,false)/\aU P 115=some (1,false)/\aU P 116=some (1,false)/\fB P 117 (.ptr none)/\aU P 118=some (1,false)/\aU P 119=some (1,false)/\aU P 120=some (1,false)/\fM P 121 69 4/\fL P 122 3 1/\aU P 124=some (1,false)/\aU P 126=some (1,false)/\aU P 127=some (1,false)/\aU P 129=some (1,false)/\aU P 131=some (1,false)/\aU P 132=some (1,false)/\aU P 133=some (1,false)/\aU P 135=some (1,false)
def wP:tq7 ba:=by
 (repeat' apply ax)<;>kernel_rfl
abbrev tq8(P:Program):Prop:=aU P 136=some (1,false)/\aU P 137=some (1,false)/\aU P 138=some (1,false)/\aU P 139=some (1,false)/\aU P 140=some (1,false)/\aU P 141=some (1,false)/\aU P 142=some (1,false)/\aU P 143=some (1,false)/\aU P 144=some (1,false)/\aU P 145=some (1,false)/\fM P 146 9 4/\aU P 148=some (1,false)/\aU P 149=some (1,false)/\aU P 150=some (1,false)/\aU P 151=some (1,false)/\aU P 152=some (1,false)/\fS P 153 2 [.slice none 0 0 (some 0),.map none]/\aG P 153 0=some (0,54,1)/\aG P 153 1=some (1,87,1)/\fS P 154 2 [.slice none 0 0 (some 0),.map none]/\aG P 154 0=some (0,54,1)/\aG P 154 1=some (1,87,1)/\aU P 155=some (1,false)/\aU P 156=some (1,false)/\aU P 157=some (1,false)
def wQ:tq8 ba:=by
 (repeat' apply ax)<;>kernel_rfl
abbrev tq9(P:Program):Prop:=aU P 158=some (1,false)/\aU P 159=some (1,false)/\aU P 160=some (1,false)/\aU P 162=some (1,false)/\aU P 163=some (1,false)/\aU P 164=some (1,false)/\aU P 165=some (1,false)/\aU P 166=some (1,false)/\aU P 167=some (1,false)/\fS P 168 2 [.str [],.str []]/\aG P 168 0=some (0,9,1)/\aG P 168 1=some (1,9,1)/\fS P 169 2 [.str [],.str []]/\aG P 169 0=some (0,9,1)/\aG P 169 1=some (1,9,1)/\aU P 170=some (1,false)/\fM P 171 9 9/\aU P 172=some (1,false)/\fL P 173 65 2/\aU P 174=some (1,false)/\fS P 175 6 [.int .i64 0,.int .i64 0,.int .i64 0,.int .i64 0,.int .i64 0,.int .i64 0]/\aG P 175 0=some (0,67,6)/\fS P 176 6 [.int .i64 0,.int .i64 0,.int .i64 0,.int .i64 0,.int .i64 0,.int .i64 0]/\aG P 176 0=some (0,67,6)/\aU P 177=some (1,false)
def wR:tq9 ba:=by
 (repeat' apply ax)<;>kernel_rfl
abbrev tq10(P:Program):Prop:=aU P 178=some (1,false)/\fA P 179 256 256 5 1 (.int .u8 0)/\aU P 180=some (1,false)/\aU P 181=some (1,false)/\fB P 182 (.ptr none)/\fA P 183 3 3 182 1 (.ptr none)/\aU P 184=some (1,false)/\fB P 185 (.ptr none)/\aU P 186=some (1,false)/\aU P 187=some (1,false)/\aU P 188=some (1,false)/\aU P 189=some (1,false)/\fM P 191 9 189/\aU P 192=some (1,false)/\aU P 193=some (1,false)/\aU P 194=some (1,false)/\aU P 195=some (1,false)/\aU P 196=some (1,false)/\aU P 197=some (1,false)/\aU P 198=some (1,false)/\aU P 199=some (1,false)/\aU P 200=some (1,false)/\aU P 201=some (1,false)/\aU P 202=some (1,false)/\fM P 203 206 4
def r5:tq10 ba:=by
 (repeat' apply ax)<;>kernel_rfl
abbrev tq11(P:Program):Prop:=aU P 204=some (1,false)/\fS P 205 2 [.str [],.str []]/\aG P 205 0=some (0,9,1)/\aG P 205 1=some (1,9,1)/\fS P 206 2 [.str [],.str []]/\aG P 206 0=some (0,9,1)/\aG P 206 1=some (1,9,1)/\aU P 207=some (1,false)/\aU P 208=some (1,false)/\aU P 209=some (1,false)/\aU P 210=some (1,false)/\aU P 211=some (1,false)/\aU P 212=some (1,false)/\aU P 213=some (1,false)/\aU P 215=some (1,false)/\aU P 216=some (1,false)/\aU P 217=some (1,false)/\aU P 218=some (1,false)/\aU P 219=some (1,false)/\aU P 220=some (1,false)/\aU P 221=some (1,false)/\fI P 222 .u64/\aU P 223=some (1,false)/\aU P 224=some (1,false)/\aU P 225=some (1,false)
def r6:tq11 ba:=by
 (repeat' apply ax)<;>kernel_rfl
abbrev tq12(P:Program):Prop:=aU P 226=some (1,false)/\aU P 227=some (1,false)/\aU P 228=some (1,false)/\aU P 229=some (1,false)/\aU P 230=some (1,false)/\fI P 231 .i64/\aU P 232=some (1,false)/\fA P 233 8 8 9 1 (.str [])/\aU P 234=some (1,false)/\fL P 235 58 1/\aU P 236=some (1,false)/\aU P 237=some (1,false)/\aU P 238=some (1,false)/\aU P 239=some (1,false)/\fL P 240 242 15/\fS P 241 15 [.int .i64 0,.int .i64 0,.str [],.str [],.str [],.str [],.str [],.str [],.int .i64 0,.int .i64 0,.int .i64 0,.int .i64 0,.int .i64 0,.int .i64 0,.int .i64 0]/\aG P 241 0=some (0,69,14)/\aG P 241 1=some (14,3,1)/\fS P 242 15 [.int .i64 0,.int .i64 0,.str [],.str [],.str [],.str [],.str [],.str [],.int .i64 0,.int .i64 0,.int .i64 0,.int .i64 0,.int .i64 0,.int .i64 0,.int .i64 0]/\aG P 242 0=some (0,69,14)/\aG P 242 1=some (14,3,1)/\aU P 243=some (1,false)/\aU P 244=some (1,false)/\aU P 245=some (1,false)/\aU P 246=some (1,false)
def r7:tq12 ba:=by
 (repeat' apply ax)<;>kernel_rfl
abbrev tq13(P:Program):Prop:=aU P 247=some (1,false)/\aU P 248=some (1,false)/\aU P 249=some (1,false)/\aU P 250=some (1,false)/\aU P 251=some (1,false)/\aU P 252=some (1,false)/\aU P 253=some (1,false)/\aU P 254=some (1,false)/\aU P 255=some (1,false)/\aU P 256=some (1,false)/\aU P 257=some (1,false)/\aU P 258=some (1,false)/\fI P 259 .i64/\aU P 261=some (1,false)/\aU P 262=some (1,false)/\aU P 263=some (1,false)/\aU P 264=some (1,false)/\aU P 265=some (1,false)/\aU P 266=some (1,false)/\fI P 267 .u32/\aU P 268=some (1,false)/\fI P 269 .u64/\aU P 270=some (1,false)/\aU P 271=some (1,false)/\aU P 272=some (1,false)
def r8:tq13 ba:=by
 (repeat' apply ax)<;>kernel_rfl
abbrev tq14(P:Program):Prop:=aU P 273=some (1,false)/\aU P 274=some (1,false)/\aU P 275=some (1,false)/\aU P 276=some (1,false)/\aU P 277=some (1,false)/\aU P 278=some (1,false)/\fI P 279 .u64/\aU P 280=some (1,false)/\aU P 281=some (1,false)/\aU P 282=some (1,false)/\fB P 283 (.ptr none)/\aU P 284=some (1,false)/\fL P 285 231 1/\aU P 286=some (1,false)/\aU P 287=some (1,false)/\aU P 288=some (1,false)/\aU P 289=some (1,false)/\aU P 290=some (1,false)/\aU P 291=some (1,false)/\aU P 292=some (1,false)/\fB P 293 (.ptr none)/\aU P 295=some (1,false)/\aU P 296=some (1,false)/\fS P 297 4 [.ptr none,.ptr none,.ptr none,.str []]/\aG P 297 0=some (0,17,1)/\aG P 297 1=some (1,17,1)/\aG P 297 2=some (2,17,1)/\aG P 297 3=some (3,9,1)
def r9:tq14 ba:=by
 (repeat' apply ax)<;>kernel_rfl
abbrev tq15(P:Program):Prop:=fS P 298 4 [.ptr none,.ptr none,.ptr none,.str []]/\aG P 298 0=some (0,17,1)/\aG P 298 1=some (1,17,1)/\aG P 298 2=some (2,17,1)/\aG P 298 3=some (3,9,1)/\fA P 299 0 0 16 1 (.ptr none)/\fS P 300 0 []/\aG P 300 0=some (0,299,0)/\fS P 301 0 []/\aG P 301 0=some (0,299,0)/\aU P 302=some (1,false)/\fI P 303 .u8/\fI P 304 .u8/\aU P 305=some (1,false)/\fB P 306 (.ptr none)/\fI P 307 .i32/\fI P 308 .i32/\fS P 309 11 [.int .u64 0,.int .u64 0,.int .u32 0,.int .u8 0,.int .u8 0,.int .u8 0,.int .u8 0,.dD,.ptr none,.int .i32 0,.int .i32 0]/\aG P 309 0=some (0,12,1)/\aG P 309 1=some (1,12,1)/\aG P 309 2=some (2,267,1)/\aG P 309 3=some (3,303,1)/\aG P 309 4=some (4,5,1)/\aG P 309 5=some (5,5,1)/\aG P 309 6=some (6,304,1)/\aG P 309 7=some (7,305,1)/\aG P 309 8=some (8,306,1)/\aG P 309 9=some (9,307,1)/\aG P 309 10=some (10,308,1)
def sa:tq15 ba:=by
 (repeat' apply ax)<;>kernel_rfl
abbrev tq16(P:Program):Prop:=fS P 310 11 [.int .u64 0,.int .u64 0,.int .u32 0,.int .u8 0,.int .u8 0,.int .u8 0,.int .u8 0,.dD,.ptr none,.int .i32 0,.int .i32 0]/\aG P 310 0=some (0,12,1)/\aG P 310 1=some (1,12,1)/\aG P 310 2=some (2,267,1)/\aG P 310 3=some (3,303,1)/\aG P 310 4=some (4,5,1)/\aG P 310 5=some (5,5,1)/\aG P 310 6=some (6,304,1)/\aG P 310 7=some (7,305,1)/\aG P 310 8=some (8,306,1)/\aG P 310 9=some (9,307,1)/\aG P 310 10=some (10,308,1)/\fI P 311 .i64/\aU P 312=some (1,false)/\aU P 314=some (1,false)
def sb:tq16 ba:=by
 (repeat' apply ax)<;>kernel_rfl
def an:type_of% wI/\type_of% wJ/\type_of% wK/\type_of% wL/\type_of% wM/\type_of% wN/\type_of% wO/\type_of% wP/\type_of% wQ/\type_of% wR/\type_of% r5/\type_of% r6/\type_of% r7/\type_of% r8/\type_of% r9/\type_of% sa/\type_of% sb:=⟨wI,wJ,wK,wL,wM,wN,wO,wP,wQ,wR,r5,r6,r7,r8,r9,sa,sb⟩
end Go.Proofs
namespace Go.Ev
section
variable {P:Program} {f:Fm} {S:List SO} {o:Nat}
def fG(v:AV):names o (.a v)=false:=by rw[names];all_goals (intros;contradiction)
def pE(n e:Nat)(cs:List SV):names o (.sl n e cs)=false:=by rw[names];all_goals (intros;contradiction)
def pC(ks:List AV)(vs:List SV):names o (.im ks vs)=false:=by rw[names];all_goals (intros;contradiction)
def pD(cs:List SV):names o (.ip cs)=false:=by rw[names];all_goals (intros;contradiction)
def mQ:names o .any=false:=by rw[names];all_goals (intros;contradiction)
def y9(k:IntKind)(n:Int):bu (.a (.int k n))=some [.a (.int k n)]:=rfl
def za(s:List Nat):bu (.a (.str s))=some [.a (.str s)]:=rfl
def y8(b:Bool):bu (.a (.bool b))=some [.a (.bool b)]:=rfl
def qY(o:Option (Nat×Nat))(n e:Nat)(c:Option Nat):bu (.a (.slice o n e c))=some [.a (.slice o n e c)]:=rfl
def uC(n e:Nat)(cs:List SV):bu (.sl n e cs)=some [.sl n e cs]:=rfl
def uA(ks:List AV)(vs:List SV):bu (.im ks vs)=some [.im ks vs]:=rfl
def uB(cs:List SV):bu (.ip cs)=some [.ip cs]:=rfl
def oS(o off:Nat):bu (.ptr o off)=some [.ptr o off]:=rfl
def oR(o:Nat):bu (.map o)=some [.map o]:=rfl
def pA(e:Nat):names o (.e0 e)=false:=by rw[names];all_goals (intros;contradiction)
def q8(o off n e:Nat)(c:Option Nat):bu (.sub o off n e c)=some [.sub o off n e c]:=rfl
def uy(e:Nat):bu (.e0 e)=some [.e0 e]:=rfl
def q6(o n e:Nat)(c:Option Nat):bu (.buf o n e c)=some [.buf o n e c]:=rfl
def q7(g:FuncId)(a b:List SV):bu (.fn g a b)=some [.fn g a b]:=rfl
def uz(t:TypeId)(v:SV):bu (.iface t v)=some [.iface t v]:=rfl
def Aa(n e:Nat)(cs:List SV):cH (.sl n e cs)=true:=rfl
def z7(ks:List AV)(vs:List SV):cH (.im ks vs)=true:=rfl
def z8(cs:List SV):cH (.ip cs)=true:=rfl
def vt(o off:Nat):cH (.ptr o off)=true:=rfl
def vr(o:Nat):cH (.map o)=true:=rfl
def vu(o off n e:Nat)(c:Option Nat):cH (.sub o off n e c)=true:=rfl
def zW(e:Nat):cH (.e0 e)=true:=rfl
def vq(o n e:Nat)(c:Option Nat):cH (.buf o n e c)=true:=rfl
def zZ(g:FuncId)(a b:List SV):cH (.fn g a b)=true:=rfl
def z6(t:TypeId)(v:SV):cH (.iface t v)=true:=rfl
def B3(k:IntKind)(n:Int):fz (.int k n)=true:=rfl
def B4(s:List Nat):fz (.str s)=true:=rfl
def B2(b:Bool):fz (.bool b)=true:=rfl
def zU(o:Option (Nat×Nat))(n e:Nat)(c:Option Nat):fz (.slice o n e c)=true:=rfl
def D3(k:IntKind)(n:Int):qf (.int k n)=.a (.int k n):=rfl
def D4(s:List Nat):qf (.str s)=.a (.str s):=rfl
def D2(b:Bool):qf (.bool b)=.a (.bool b):=rfl
def CB(o:Option (Nat×Nat))(n e:Nat)(c:Option Nat):qf (.slice o n e c)=.a (.slice o n e c):=rfl
def Au(o:Option (Nat×Nat)):qf (.ptr o)=.a (.ptr o):=rfl
def As(o:Option Nat):qf (.map o)=.a (.map o):=rfl
def CA:qf .dD=.a .dD:=rfl
def aF(v w:SV)(l:List SV):bL (v::w::l)=.aO (v::w::l):=rfl
def Cy(x:Operand)(aS:Array Operand)(ats:Array TypeId):sOp P f S (.call { callee:=.value x,args:=aS,argTypes:=ats })=none:=rfl
def Cx(x:Operand)(m:String)(aS:Array Operand)(ats:Array TypeId):sOp P f S (.call { callee:=.invoke x m,args:=aS,argTypes:=ats })=none:=rfl
def fR(k:IntKind)(n:Nat):bN (.int k (n:Int))=some n:=rfl
def rJ(k:IntKind)(n:Nat):bN (.int k (OfNat.ofNat n))=some n:=rfl
def qZ(cs:List AV):(AV.agg cs).cells=cs:=rfl
def Fc:(type_of% (@sRun.eq_1))/\(type_of% (@sRun.eq_2))/\(type_of% (@sOp.eq_1))/\(type_of% (@sOp.eq_2))/\(type_of% (@sOp.eq_3))/\(type_of% (@sOp.eq_4))/\(type_of% (@sOp.eq_5))/\(type_of% (@sOp.eq_6))/\(type_of% (@sOp.eq_7))/\(type_of% (@sOp.eq_8))/\(type_of% (@sOp.eq_9))/\(type_of% (@sOp.eq_10))/\(type_of% (@sOp.eq_11))/\(type_of% (@sOp.eq_12))/\(type_of% (@sOp.eq_13))/\(type_of% (@sOp.eq_14))/\(type_of% (@sOp.eq_15))/\(type_of% (@sOp.eq_16))/\(type_of% (@sOp.eq_17))/\(type_of% (@sOp.eq_18))/\(type_of% (@sOp.eq_19))/\(type_of% (@sOp.eq_20))/\(type_of% (@sOp.eq_21))/\(type_of% (@sOp.eq_22))/\(type_of% (@sOp.eq_23))/\(type_of% (@sOp.eq_24))/\(type_of% (@sOp.eq_25))/\(type_of% (@sOp.eq_26))/\(type_of% (@sOp.eq_27))/\(type_of% (@loadS.eq_1))/\(type_of% (@loadS.eq_2))/\(type_of% (@partS.eq_1))/\(type_of% (@aC.eq_1))/\(type_of% (@aC.eq_2))/\(type_of% (@j9.eq_1))/\(type_of% (@j9.eq_2))/\(type_of% (@ez.eq_1))/\(type_of% (@ez.eq_2))/\(type_of% (@bB.eq_1))/\(type_of% (@bB.eq_2)):=
 ⟨@sRun.eq_1,@sRun.eq_2,@sOp.eq_1,@sOp.eq_2,@sOp.eq_3,@sOp.eq_4,@sOp.eq_5,@sOp.eq_6,@sOp.eq_7,@sOp.eq_8,@sOp.eq_9,@sOp.eq_10,@sOp.eq_11,@sOp.eq_12,@sOp.eq_13,@sOp.eq_14,@sOp.eq_15,@sOp.eq_16,@sOp.eq_17,@sOp.eq_18,@sOp.eq_19,@sOp.eq_20,@sOp.eq_21,@sOp.eq_22,@sOp.eq_23,@sOp.eq_24,@sOp.eq_25,@sOp.eq_26,@sOp.eq_27,@loadS.eq_1,@loadS.eq_2,@partS.eq_1,@aC.eq_1,@aC.eq_2,@j9.eq_1,@j9.eq_2,@ez.eq_1,@ez.eq_2,@bB.eq_1,@bB.eq_2⟩
def Fe:(type_of% (@sd.eq_1))/\(type_of% (@sd.eq_2))/\(type_of% (@cT.eq_1))/\(type_of% (@cT.eq_2))/\(type_of% (@cT.eq_3))/\(type_of% (@cT.eq_4))/\(type_of% (@gF.eq_1))/\(type_of% (@gF.eq_2))/\(type_of% (@eY.eq_1))/\(type_of% (@eY.eq_2))/\(type_of% (@lX.eq_1))/\(type_of% (@lX.eq_2))/\(type_of% (@jt.eq_1))/\(type_of% (@jt.eq_2))/\(type_of% (@buildS.eq_1))/\(type_of% (@fN.eq_1))/\(type_of% (@bx.eq_1))/\(type_of% (@bx.eq_2))/\(type_of% (@bx.eq_3))/\(type_of% (@fc.eq_1))/\(type_of% (@fc.eq_2))/\(type_of% (@xJ.eq_1))/\(type_of% (@entS.eq_1))/\(type_of% (@entS.eq_2))/\(type_of% (@entS.eq_3))/\(type_of% (@jo.eq_1))/\(type_of% (@jo.eq_2))/\(type_of% (@jo.eq_3))/\(type_of% (@jo.eq_4))/\(type_of% (@jo.eq_5))/\(type_of% (@rowsS.eq_1))/\(type_of% (@rowsS.eq_2))/\(type_of% (@rowsS.eq_3))/\(type_of% (@bZ.eq_1))/\(type_of% (@dG.eq_1))/\(type_of% (@nS.eq_1))/\(type_of% (@nS.eq_2))/\(type_of% (@bX.eq_1)):=
 ⟨@sd.eq_1,@sd.eq_2,@cT.eq_1,@cT.eq_2,@cT.eq_3,@cT.eq_4,@gF.eq_1,@gF.eq_2,@eY.eq_1,@eY.eq_2,@lX.eq_1,@lX.eq_2,@jt.eq_1,@jt.eq_2,@buildS.eq_1,@fN.eq_1,@bx.eq_1,@bx.eq_2,@bx.eq_3,@fc.eq_1,@fc.eq_2,@xJ.eq_1,@entS.eq_1,@entS.eq_2,@entS.eq_3,@jo.eq_1,@jo.eq_2,@jo.eq_3,@jo.eq_4,@jo.eq_5,@rowsS.eq_1,@rowsS.eq_2,@rowsS.eq_3,@bZ.eq_1,@dG.eq_1,@nS.eq_1,@nS.eq_2,@bX.eq_1⟩
def Ff:(type_of% (@bX.eq_2))/\(type_of% (@bX.eq_3))/\(type_of% (@bX.eq_4))/\(type_of% (@bX.eq_5))/\(type_of% (@vz.eq_1))/\(type_of% (@pM.eq_1))/\(type_of% (@nilS.eq_1))/\(type_of% (@nilS.eq_2))/\(type_of% (@nilS.eq_3))/\(type_of% (@nilS.eq_4))/\(type_of% (@nilS.eq_5))/\(type_of% (@gr.eq_1))/\(type_of% (@mI.eq_1))/\(type_of% (@indexAddrS.eq_1))/\(type_of% (@indexS.eq_1))/\(type_of% (@dr.eq_1))/\(type_of% (@dr.eq_2))/\(type_of% (@dr.eq_3))/\(type_of% (@dr.eq_4))/\(type_of% (@killO.eq_1))/\(type_of% (@killO.eq_2))/\(type_of% (@killO.eq_3))/\(type_of% (@killO.eq_4))/\(type_of% (@killO.eq_5))/\(type_of% (@killO.eq_6))/\(type_of% (@killO.eq_7))/\(type_of% (@cm.eq_1))/\(type_of% (@gB.eq_1))/\(type_of% (@gB.eq_2))/\(type_of% (@gB.eq_3))/\(type_of% (@bL.eq_1))/\(type_of% (@callS.eq_1))/\(type_of% (@qf.eq_1))/\(type_of% (@bu.eq_1))/\(type_of% (@bu.eq_2))/\(type_of% (@bu.eq_3))/\(type_of% (@cH.eq_1))/\(type_of% (@cH.eq_2))/\(type_of% (@cH.eq_3))/\(type_of% (@cH.eq_4))/\(type_of% (@names.eq_1))/\(type_of% (@names.eq_2))/\(type_of% (@names.eq_3))/\(type_of% (@names.eq_4)):=
 ⟨@bX.eq_2,@bX.eq_3,@bX.eq_4,@bX.eq_5,@vz.eq_1,@pM.eq_1,@nilS.eq_1,@nilS.eq_2,@nilS.eq_3,@nilS.eq_4,@nilS.eq_5,@gr.eq_1,@mI.eq_1,@indexAddrS.eq_1,@indexS.eq_1,@dr.eq_1,@dr.eq_2,@dr.eq_3,@dr.eq_4,@killO.eq_1,@killO.eq_2,@killO.eq_3,@killO.eq_4,@killO.eq_5,@killO.eq_6,@killO.eq_7,@cm.eq_1,@gB.eq_1,@gB.eq_2,@gB.eq_3,@bL.eq_1,@callS.eq_1,@qf.eq_1,@bu.eq_1,@bu.eq_2,@bu.eq_3,@cH.eq_1,@cH.eq_2,@cH.eq_3,@cH.eq_4,@names.eq_1,@names.eq_2,@names.eq_3,@names.eq_4⟩
def Fh:(type_of% (@names.eq_5))/\(type_of% (@names.eq_6))/\(type_of% (@names.eq_7))/\(type_of% (@dm.eq_1))/\(type_of% (@dm.eq_2))/\(type_of% (@aH.eq_1))/\(type_of% (@HasS.eq_1))/\(type_of% (@HasS.eq_2))/\(type_of% (@oH.eq_1))/\(type_of% (@oH.eq_2))/\(type_of% (@fa.eq_1))/\(type_of% (@fa.eq_2))/\(type_of% (@fG))/\(type_of% (@pE))/\(type_of% (@pC))/\(type_of% (@pD))/\(type_of% (@mQ))/\(type_of% (@qY))/\(type_of% (@y9))/\(type_of% (@za))/\(type_of% (@y8))/\(type_of% (@uC))/\(type_of% (@uA))/\(type_of% (@uB))/\(type_of% (@q6))/\(type_of% (@uz))/\(type_of% (@Aa))/\(type_of% (@z7))/\(type_of% (@z8))/\(type_of% (@vt))/\(type_of% (@vr))/\(type_of% (@vq))/\(type_of% (@zZ))/\(type_of% (@z6))/\(type_of% (@B3))/\(type_of% (@B4))/\(type_of% (@B2))/\(type_of% (@zU))/\(type_of% (@D3))/\(type_of% (@D4)):=
 ⟨@names.eq_5,@names.eq_6,@names.eq_7,@dm.eq_1,@dm.eq_2,@aH.eq_1,@HasS.eq_1,@HasS.eq_2,@oH.eq_1,@oH.eq_2,@fa.eq_1,@fa.eq_2,@fG,@pE,@pC,@pD,@mQ,@qY,@y9,@za,@y8,@uC,@uA,@uB,@q6,@uz,@Aa,@z7,@z8,@vt,@vr,@vq,@zZ,@z6,@B3,@B4,@B2,@zU,@D3,@D4⟩
def Fi:(type_of% (@D2))/\(type_of% (@CB))/\(type_of% (@Au))/\(type_of% (@As))/\(type_of% (@CA))/\(type_of% (@aF))/\(type_of% (@Cy))/\(type_of% (@Cx))/\(type_of% (@fR))/\(type_of% (@oS))/\(type_of% (@oR))/\(type_of% (@q7))/\(type_of% (@rJ))/\(type_of% (@qZ))/\(type_of% (@q0))/\(type_of% (@CF))/\(type_of% (@uh))/\(type_of% (@um))/\(type_of% (@uk))/\(type_of% (@ui))/\(type_of% (@k9))/\(type_of% (@uj))/\(type_of% ((λ{P:Program} {t:TypeId} {a b:Int}=>@oh P t a b _ jm)))/\(type_of% ((λ{P:Program} {t:TypeId} {a b:Int}=>@k8 P t a b _ jm)))/\(type_of% ((λ{P:Program} {t:TypeId} {a b:Int}=>@og P t a b _ jm)))/\(type_of% ((λ{P:Program} {t:TypeId} {a b:Int}=>@oe P t a b _ jm)))/\(type_of% ((λ{P:Program} {t:TypeId} {a b:Int}=>@k7 P t a b _ jm)))/\(type_of% ((λ{P:Program} {t:TypeId} {a b:Int}=>@iQ P t a b _ jm)))/\(type_of% ((λ{P:Program} {t:TypeId} {a b:Int}=>@oh P t a b _ nP)))/\(type_of% ((λ{P:Program} {t:TypeId} {a b:Int}=>@k8 P t a b _ nP)))/\(type_of% ((λ{P:Program} {t:TypeId} {a b:Int}=>@og P t a b _ nP)))/\(type_of% ((λ{P:Program} {t:TypeId} {a b:Int}=>@oe P t a b _ nP)))/\(type_of% ((λ{P:Program} {t:TypeId} {a b:Int}=>@k7 P t a b _ nP)))/\(type_of% ((λ{P:Program} {t:TypeId} {a b:Int}=>@iQ P t a b _ nP)))/\(type_of% (@names.eq_8))/\(type_of% (@jo.eq_6))/\(type_of% (@jo.eq_7))/\(type_of% (@rowsS.eq_4))/\(type_of% (@rowsS.eq_5))/\(type_of% (@nilS.eq_6))/\(type_of% (@nilS.eq_7))/\(type_of% (@dr.eq_6))/\(type_of% (@dr.eq_8))/\(type_of% (@dr.eq_9))/\(type_of% (@dr.eq_10))/\(type_of% (@bX.eq_6))/\(type_of% (@bX.eq_7))/\(type_of% (@bX.eq_8))/\(type_of% (@uc.eq_1))/\(type_of% (@uc.eq_2))/\(type_of% (@uc.eq_3))/\(type_of% (@qi.eq_1))/\(type_of% (@qi.eq_2))/\(type_of% (@qi.eq_3))/\(type_of% (@qi.eq_4))/\(type_of% (@uF.eq_1))/\(type_of% (@ze.eq_1))/\(type_of% (@oU.eq_1))/\(type_of% (@DF.eq_1))/\(type_of% (@DF.eq_2))/\(type_of% (@oQ.eq_1))/\(type_of% (@oQ.eq_2))/\(type_of% (@oQ.eq_3))/\(type_of% (@oQ.eq_4))/\(type_of% (@pA))/\(type_of% (@q8))/\(type_of% (@uy))/\(type_of% (@vu))/\(type_of% (@zW))/\(type_of% (@kY.eq_1))/\(type_of% (@lG.eq_1)):=
 ⟨@D2,@CB,@Au,@As,@CA,@aF,@Cy,@Cx,@fR,@oS,@oR,@q7,@rJ,@qZ,@q0,@CF,@uh,@um,@uk,@ui,@k9,@uj,(λ{P:Program} {t:TypeId} {a b:Int}=>@oh P t a b _ jm),(λ{P:Program} {t:TypeId} {a b:Int}=>@k8 P t a b _ jm),(λ{P:Program} {t:TypeId} {a b:Int}=>@og P t a b _ jm),(λ{P:Program} {t:TypeId} {a b:Int}=>@oe P t a b _ jm),(λ{P:Program} {t:TypeId} {a b:Int}=>@k7 P t a b _ jm),(λ{P:Program} {t:TypeId} {a b:Int}=>@iQ P t a b _ jm),(λ{P:Program} {t:TypeId} {a b:Int}=>@oh P t a b _ nP),(λ{P:Program} {t:TypeId} {a b:Int}=>@k8 P t a b _ nP),(λ{P:Program} {t:TypeId} {a b:Int}=>@og P t a b _ nP),(λ{P:Program} {t:TypeId} {a b:Int}=>@oe P t a b _ nP),(λ{P:Program} {t:TypeId} {a b:Int}=>@k7 P t a b _ nP),(λ{P:Program} {t:TypeId} {a b:Int}=>@iQ P t a b _ nP),@names.eq_8,@jo.eq_6,@jo.eq_7,@rowsS.eq_4,@rowsS.eq_5,@nilS.eq_6,@nilS.eq_7,@dr.eq_6,@dr.eq_8,@dr.eq_9,@dr.eq_10,@bX.eq_6,@bX.eq_7,@bX.eq_8,@uc.eq_1,@uc.eq_2,@uc.eq_3,@qi.eq_1,@qi.eq_2,@qi.eq_3,@qi.eq_4,@uF.eq_1,@ze.eq_1,@oU.eq_1,@DF.eq_1,@DF.eq_2,@oQ.eq_1,@oQ.eq_2,@oQ.eq_3,@oQ.eq_4,@pA,@q8,@uy,@vu,@zW,@kY.eq_1,@lG.eq_1⟩
def bf:type_of% Fc/\type_of% Fe/\type_of% Ff/\type_of% Fh/\type_of% Fi:=⟨Fc,Fe,Ff,Fh,Fi⟩
end
noncomputable section
def fp:Op->Bool
 | .move _ | .assign _ | .pick _ _ _ | .build _ _ | .nilCheck _ | .binOp _ _ _ _ _ | .unOp _ _ _ | .convert _ _ _ | .fieldAddr _ _ _ | .field _ _ _ | .indexAddr _ _ _ | .index _ _ _ | .extract _ _ | .load _ _ | .lookup _ _ _ _ | .slice _ _ _ _ _=>true
 | .makeFunc (.func _) _ _=>true
 | .makeFunc (.method _) _ _=>true
 | .call { callee:=.builtin .len,.. }=>true
 | _=>false
def xC:Op->Bool
 | .load _ _ | .lookup _ _ _ _ | .call _ | .slice _ _ _ _ _=>true
 | _=>false
def Cz{P:Program}{f:Fm}{S S':List SO}{op:Op}(hr:fp op=true){v:SV}{kill:Option Nat}(h:sOp P f S op=some (v,S',kill)):S'=S/\kill=none:=by
 cases op with
 | move x=>obtain⟨_,_,e⟩:=ai h;cases e;exact⟨rfl,rfl⟩
 | assign x=>obtain⟨_,_,e⟩:=ai h;cases e;exact⟨rfl,rfl⟩
 | pick c a b=>obtain⟨_,_,e⟩:=ai h;cases e;exact⟨rfl,rfl⟩
 | build tt ps=>obtain⟨_,_,h⟩:=bind_eq_some_iff.1 h;obtain⟨_,_,e⟩:=ai h;cases e;exact⟨rfl,rfl⟩
 | nilCheck x=>obtain⟨_,_,h⟩:=bind_eq_some_iff.1 h;obtain⟨_,_,e⟩:=ai h;cases e;exact⟨rfl,rfl⟩
 | binOp op xt x y yt=>
  obtain⟨_,_,h⟩:=bind_eq_some_iff.1 h;obtain⟨_,_,h⟩:=bind_eq_some_iff.1 h;obtain⟨_,_,h⟩:=bind_eq_some_iff.1 h;obtain⟨_,_,h⟩:=bind_eq_some_iff.1 h;obtain⟨_,_,e⟩:=ai h;cases e;exact⟨rfl,rfl⟩
 | unOp op xt x=>
  obtain⟨_,_,h⟩:=bind_eq_some_iff.1 h;obtain⟨_,_,h⟩:=bind_eq_some_iff.1 h;obtain⟨_,_,e⟩:=ai h;cases e;exact⟨rfl,rfl⟩
 | convert s d x=>
  obtain⟨_,_,h⟩:=bind_eq_some_iff.1 h;obtain⟨_,_,h⟩:=bind_eq_some_iff.1 h;obtain⟨_,_,e⟩:=ai h;cases e;exact⟨rfl,rfl⟩
 | fieldAddr s x fl=>obtain⟨_,_,h⟩:=bind_eq_some_iff.1 h;obtain⟨_,_,e⟩:=ai h;cases e;exact⟨rfl,rfl⟩
 | field s x fl=>obtain⟨_,_,h⟩:=bind_eq_some_iff.1 h;obtain⟨_,_,e⟩:=ai h;cases e;exact⟨rfl,rfl⟩
 | indexAddr s x i=>
  obtain⟨_,_,h⟩:=bind_eq_some_iff.1 h;obtain⟨_,_,h⟩:=bind_eq_some_iff.1 h;obtain⟨_,_,e⟩:=ai h;cases e;exact⟨rfl,rfl⟩
 | index s x i=>
  obtain⟨_,_,h⟩:=bind_eq_some_iff.1 h;obtain⟨_,_,h⟩:=bind_eq_some_iff.1 h;obtain⟨_,_,e⟩:=ai h;cases e;exact⟨rfl,rfl⟩
 | extract x i=>
  simp only[sOp] at h;split at h
  ·obtain⟨_,_,e⟩:=ai h;cases e;exact⟨rfl,rfl⟩
  ·cases h
 | makeFunc g first cap=>
  cases g with
  | func g=>obtain⟨_,_,h⟩:=bind_eq_some_iff.1 h;obtain⟨_,_,e⟩:=ai h;cases e;exact⟨rfl,rfl⟩
  | method nm=>
   obtain⟨_,_,h⟩:=bind_eq_some_iff.1 h;obtain⟨_,_,h⟩:=bind_eq_some_iff.1 h;obtain⟨_,_,h⟩:=bind_eq_some_iff.1 h;obtain⟨_,_,e⟩:=ai h;cases e;exact⟨rfl,rfl⟩
  | _=>simp[fp] at hr
 | load tt a=>obtain⟨_,_,h⟩:=bind_eq_some_iff.1 h;obtain⟨_,_,e⟩:=ai h;cases e;exact⟨rfl,rfl⟩
 | lookup tt x k ok=>
  obtain⟨_,_,h⟩:=bind_eq_some_iff.1 h;obtain⟨_,_,h⟩:=bind_eq_some_iff.1 h;obtain⟨_,_,e⟩:=ai h;cases e;exact⟨rfl,rfl⟩
 | slice tt x lo hi mx=>
  obtain⟨_,_,h⟩:=bind_eq_some_iff.1 h;obtain⟨_,_,h⟩:=bind_eq_some_iff.1 h;obtain⟨_,_,h⟩:=bind_eq_some_iff.1 h;obtain⟨_,_,h⟩:=bind_eq_some_iff.1 h;obtain⟨_,_,e⟩:=ai h;cases e;exact⟨rfl,rfl⟩
 | call c=>
  obtain⟨callee,aS,ats⟩:=c
  cases callee with
  | builtin b=>
   cases b with
   | len=>
    obtain⟨_,_,h⟩:=bind_eq_some_iff.1 h;rename_i vs _
    cases hats:ats.toList with
    | nil=>rw[hats] at h;cases h
    | cons tt l=>
     rw[hats] at h
     cases vs with
     | nil=>cases h
     | cons x l'=>
      have h:(jo P S tt x).map (λ(n:Nat)=>((SV.a (.int .i64 (n:Int)),S,none):SV×List SO×Option Nat))=some (v,S',kill):=h;obtain⟨_,_,e⟩:=ai h;cases e;exact⟨rfl,rfl⟩
   | _=>simp[fp] at hr
  | _=>simp[fp] at hr
 | _=>simp[fp] at hr
section
variable {θ:Nat->Loc} {ρ ρ0:ff} {P:Program}
mutual
def uP:∀{r:SV} {v:AV},bx r=some v->VS θ ρ r v
 | .a w,v,h=>by rw[bx] at h;cases h;rw[VS]
 | .ag cs,v,h=>by rw[bx] at h;obtain⟨aS,h1,rfl⟩:=ai h;rw[VS];exact⟨aS,rfl,o8 h1⟩
 | .any,_,h=>by simp[bx] at h
 | .sl _ _ _,_,h=>by simp[bx] at h
 | .im _ _,_,h=>by simp[bx] at h
 | .ip _,_,h=>by simp[bx] at h
 | .ptr _ _,_,h=>by simp[bx] at h
 | .map _,_,h=>by simp[bx] at h
 | .buf _ _ _ _,_,h=>by simp[bx] at h
 | .sub _ _ _ _ _,_,h=>by simp[bx] at h
 | .e0 _,_,h=>by simp[bx] at h
 | .aO _,_,h=>by simp[bx] at h
 | .fn _ _ _,_,h=>by simp[bx] at h
 | .iface t w,v,h=>by rw[bx] at h;obtain⟨a,h1,rfl⟩:=ai h;rw[VS];exact⟨a,rfl,uP h1⟩
def o8:∀{rs:List SV} {vs:List AV},fc rs=some vs->bK θ ρ rs vs
 | [],vs,h=>by rw[fc] at h;cases h;rw[aI]
 | d::ds,vs,h=>by
  rw[fc] at h;obtain⟨a,ha,h⟩:=bind_eq_some_iff.1 h;obtain⟨b,hb,rfl⟩:=ai h;rw[az];exact⟨a,b,rfl,uP ha,o8 hb⟩
end
end
section
variable {P:Program} {ro:Option Nat} {Q:Ex->cM->Prop} {f f':Fm} {n:Nat} {S S':List SO} {ds:List eE}
def ak.Dl{id:Nat}{ops:Array Oper}{l':List Oper}(hs:cN ops.toList n ops.toList=true)(h:sRun P ops.toList ops.toList f S=(l',f',S'))(hk:aB P ro ops.toList l' ⟨f',n,S',ds⟩ (Q .normal)):ak P ro (.region id ops false) ⟨f,n,S,ds⟩ Q:=.region (.run hs h hk)
def ak.r0{id:Nat}{ops:Array Oper}(hs:cN ops.toList n ops.toList=true)(h:sRun P ops.toList ops.toList f S=([],f',S'))(hk:Q .normal ⟨f',n,S',ds⟩):ak P ro (.region id ops false) ⟨f,n,S,ds⟩ Q:=.Dl hs h (.nil hk)
def aB.r0{all l:List Oper}{K:cM->Prop}(hs:cN all n l=true)(h:sRun P all l f S=([],f',S'))(hk:K ⟨f',n,S',ds⟩):aB P ro all l ⟨f,n,S,ds⟩ K:=.run hs h (.nil hk)
theorem aB.k{all:List Oper}{o:Oper}{l:List Oper}{K:cM->Prop}{d:Nat}{c:Call}{g:FuncId}{vs ws:List SV}{r:SV}(hst:cN all n [o]=true)(hop:o.op=.call c)(hdst:o.dst=some d)(hw:bB all f o.guard=some true)(hdy:dg (.call c)=true)
 (hc:callS P f c=some (g,vs)) (hq:PC P g ws (·=r)) (hwk:aM S vs ws) (hfl:nb r=true\/aM [] vs ws) (hk:aB P ro all l ⟨(d,r)::f,n,S,ds⟩ K):aB P ro all (o::l) ⟨f,n,S,ds⟩ K:=by
 have hd:=(cU hst).1;rw[hdst] at hd;exact .call hop hdst (cI hst hw) hdy hd hc hq hwk (hfl.imp (λh r hr=>by rw[hr];exact h) id) (λr hr=>by rw[hr];exact hk)
end
def E4:(∀(a:SV) (l:List SV) (i:Nat),(a::l)[i+1]?=l[i]?)/\(∀(a:SV) (l:List SV),(a::l)[0]?=some a)/\(∀(a:AV) (l:List AV) (i:Nat),(a::l)[i+1]?=l[i]?)/\(∀(a:AV) (l:List AV),(a::l)[0]?=some a)/\(∀(a:SO) (l:List SO) (i:Nat),(a::l)[i+1]?=l[i]?)/\(∀(a:SO) (l:List SO),(a::l)[0]?=some a)/\(∀(a:Oper) (l:List Oper) (i:Nat),(a::l)[i+1]?=l[i]?)/\(∀(a:Oper) (l:List Oper),(a::l)[0]?=some a)/\(∀(a:SV) (l:List SV) (i:Nat),(a::l).drop (i+1)=l.drop i)/\(∀l:List SV,l.drop 0=l)/\(∀i:Nat,([]:List SV).drop i=[])/\(∀(i:Nat) (a:SV) (l:List SV),(a::l).take (i+1)=a::l.take i)/\(∀l:List SV,l.take 0=[])/\(∀i:Nat,([]:List SV).take i=[])/\(∀(p:SV->Bool) (a:SV) (l:List SV),(a::l).all p=(p a&&l.all p))/\(∀p:SV->Bool,([]:List SV).all p=true)/\(∀l:List SV,[]++l=l)/\(∀(a:SV) (l m:List SV),(a::l)++m=a::(l++m))/\(∀(a b:SV) (l:List SV),(a::l).set 0 b=b::l)/\(∀(a b:SV) (l:List SV) (i:Nat),(a::l).set (i+1) b=a::l.set i b)/\(∀l:List SO,[]++l=l)/\(∀(a:SO) (l m:List SO),(a::l)++m=a::(l++m))/\(∀(a b:SO) (l:List SO),(a::l).set 0 b=b::l)/\(∀(a b:SO) (l:List SO) (i:Nat),(a::l).set (i+1) b=a::l.set i b)/\(∀(a:SV) (l:List SV),(a::l).length=l.length+1)/\(([]:List SV).length=0)/\(∀(a:SO) (l:List SO),(a::l).length=l.length+1)/\(([]:List SO).length=0)/\(∀(a:AV) (l:List AV),(a::l).length=l.length+1)/\(([]:List AV).length=0):=by
 (repeat' apply ax)<;>intros<;>first | rfl | (simp;done) | (unfold jr;rfl)
def E5:(∀(f:AV->SV) (a:AV) (l:List AV),(a::l).map f=f a::l.map f)/\(∀f:AV->SV,([]:List AV).map f=[])/\(∀(f:SV->SV) (a:SV) (l:List SV),(a::l).map f=f a::l.map f)/\(∀f:SV->SV,([]:List SV).map f=[])/\(∀(f:SO->SO) (a:SO) (l:List SO),(a::l).map f=f a::l.map f)/\(∀f:SO->SO,([]:List SO).map f=[])/\(∀(f:(Nat×SV)->(Nat×SV)) (a:(Nat×SV)) (l:List (Nat×SV)),(a::l).map f=f a::l.map f)/\(∀f:(Nat×SV)->(Nat×SV),([]:List (Nat×SV)).map f=[])/\(∀l:List Oper,l.toArray.toList=l)/\(∀l:List Operand,l.toArray.toList=l)/\(∀l:List TypeId,l.toArray.toList=l)/\(∀l:List (Nat×Operand),l.toArray.toList=l)/\(∀l:List ResultVar,l.toArray.toList=l)/\(∀x y:SV,cond true x y=x)/\(∀x y:SV,cond false x y=y)/\(∀x y:Bool,cond true x y=x)/\(∀x y:Bool,cond false x y=y)/\(∀x y:Option (SV×List SO×Option Nat),cond true x y=x)/\(∀x y:Option (SV×List SO×Option Nat),cond false x y=y)/\(∀x y:Option SV,cond true x y=x)/\(∀x y:Option SV,cond false x y=y)/\(∀x y:Option (List SO),cond true x y=x)/\(∀x y:Option (List SO),cond false x y=y)/\(∀n:Nat,0+n=n)/\(∀n:Nat,n+0=n)/\(∀n:Nat,0*n=0)/\(∀b,(b||false)=b)/\(∀b,(false||b)=b)/\(∀b,(b||true)=true)/\(∀b,(true||b)=true):=by
 (repeat' apply ax)<;>intros<;>first | rfl | (simp;done) | (unfold jr;rfl)
def E6:(∀b,(b&&true)=b)/\(∀b,(true&&b)=b)/\(∀b,(b&&false)=false)/\(∀b,(false&&b)=false)/\((!true)=false)/\((!false)=true)/\(∀p:Prop,(p/\True)=p)/\(∀p:Prop,(True/\p)=p)/\((¬False)=True)/\((¬True)=False)/\(∀a b:Nat,(a≠b)=¬(a=b))/\(∀b:Bool,(b=b)=True)/\(∀n:Nat,(n=n)=True)/\((false=true)=False)/\((true=false)=False)/\(∀{α:Type} (p:Prop) [Decidable p] (x:Option α),jr p x=if p then x else none):=by
 (repeat' apply ax)<;>intros<;>first | rfl | (simp;done) | (unfold jr;rfl)
def E7:(∀(k:IntKind) (n:Int),fW depthV (.int k n)=some (.int k n))/\(∀b,fW depthV (.bool b)=some (.bool b))/\(fW depthV (.pointer none)=some (.ptr none))/\(fW depthV (.slice none 0 0)=some (.slice none 0 0 (some 0)))/\(fW depthV (.map none)=some (.map none))/\(fW depthV .nilFunc=some .dD)/\(∀s,fW depthV (.string s)=some (.str (s.data.toList.map (·.toNat))))/\(∀l:List UInt8,l.toArray.toList=l)/\(∀(f:UInt8->Nat) (a:UInt8) (l:List UInt8),(a::l).map f=f a::l.map f)/\(∀f:UInt8->Nat,([]:List UInt8).map f=[])/\(∀h:Decidable False,@decide False h=false)/\(∀h:Decidable True,@decide True h=true):=by
 (repeat' apply ax)<;>intros<;>first | rfl | (simp;done)
def E8:(∀l:List (Nat×SV),[]++l=l)/\(∀(a:Nat×SV) (l m:List (Nat×SV)),(a::l)++m=a::(l++m))/\(∀z:List AV,rep z 0=[])/\(∀(z:List AV) (n:Nat),rep z (n+1)=z++rep z n)/\(∀l:List AV,[]++l=l)/\(∀(a:AV) (l m:List AV),(a::l)++m=a::(l++m))/\(∀s,(AV.str s).cells=[.str s])/\(∀k n,(AV.int k n).cells=[.int k n])/\(∀b,(AV.bool b).cells=[.bool b])/\(∀o n e c,(AV.slice o n e c).cells=[.slice o n e c])/\(∀o,(AV.ptr o).cells=[.ptr o])/\(∀o,(AV.map o).cells=[.map o])/\(AV.dD.cells=[.dD])/\(AV.nT.cells=[.nT]):=by
 (repeat' apply ax)<;>intros<;>first | rfl | (simp;done)
def aN:type_of% E4/\type_of% E5/\type_of% E6/\type_of% E7/\type_of% E8:=⟨E4,E5,E6,E7,E8⟩
def cA(k:Nat):((k+1:Nat):Int)=(k:Int)+1:=rfl
def iW{k l B:Nat}(h1:k<l)(h2:l<=B)(hB:B<=9223372036854775807) : -9223372036854775808<=(k:Int)+1/\(k:Int)+1<=9223372036854775807:=⟨by omega,by omega⟩
def kr.of{P:Program}{fn:Func}{Q:SV->Prop}{e:Ex}{f:Fm}{n:Nat}{S:List SO}{rs:List ResultVar}{vs:List SV}{r:SV}(he:fj e=true)(hr:fn.results.toList=rs)(h:gB P f S rs=some vs)(hw:Wk S (bL vs) r)(hq:Q r):kr P fn Q e ⟨f,n,S,[]⟩:=by
 subst hr;exact⟨he,rfl,vs,r,h,hw,hq⟩
abbrev ae(s:List Nat):SV:=.a (.str s)
abbrev aa(n:Int):SV:=.a (.int .i64 n)
abbrev ao(b:Bool):SV:=.a (.bool b)
def slS{α:Type}(e:Nat)(l:List α)(enc:α->List SV):SV:=.sl l.length e (l.flatMap enc)
def au{α:Type}{e:Nat}{enc:α->List SV}(he:∀x,(enc x).length=e):∀{l:List α} {i:Nat} {x:α},l[i]?=some x->((l.flatMap enc).drop (i*e)).take e=enc x
 | [],i,x,h=>by simp at h
 | a::l,0,x,h=>by
  simp only[bt,Option.some.injEq] at h;subst h;rw[b6,b8,dc,List.take_append_of_le_length (by rw[he];exact b9 _),ch (by rw[he];exact b9 _)]
 | a::l,i+1,x,h=>by
  simp only[bk] at h;have ih:=au he h;rw[dc,d4,Nat.add_comm,<-b7,show List.drop e (enc a++l.flatMap enc)=l.flatMap enc from by rw[List.drop_append_of_le_length (by rw[he];exact b9 _),List.drop_of_length_le (by rw[he];exact b9 _),dv]];exact ih
def eK{α:Type}(p:α->Bool)(l:List α):Int:=match l.findIdx? p with
 | some k=>(k:Int)
 | none => -1
def sC{α:Type}{p:α->Bool}{l:List α}{k:Nat}{x:α}(h1:l[k]?=some x)(h2:p x=true)(h3:∀(i:Nat) y,i<k->l[i]?=some y->p y=false):eK p l=(k:Int):=by
 have:l.findIdx? p=some k:=by
  rw[List.findIdx?_eq_some_iff_getElem];obtain⟨hlt,he⟩:=List.getElem?_eq_some_iff.1 h1;refine⟨hlt,by rw[he];exact h2,λj hj=>?_⟩;rw[h3 j _ hj (List.getElem?_eq_getElem (by omega))];decide
 unfold eK;rw[this]
def mL{α:Type}{p:α->Bool}{l:List α}(h3:∀(i:Nat) y,i<l.length->l[i]?=some y->p y=false):eK p l = -1:=by
 have:l.findIdx? p=none:=by
  rw[List.findIdx?_eq_none_iff];intro x hx;obtain⟨i,hi⟩:=List.mem_iff_getElem?.1 hx;exact h3 i x (aE hi) hi
 unfold eK;rw[this]
def one1{α:Type}(c:α->SV)(x:α):List SV:=[c x]
def PC.of{P:Program}{g:FuncId}{aS:List SV}{xs:List AV}{v:AV}(h:∀h,cx P (.func g) xs h (λa h'=>a=v/\h'=h))(hx:∀ρ avs,e9 ρ aS avs->avs=xs):PC P g aS (·=.a v):=
 λρ hh avs h1 h2=>by
  have:=hx ρ avs h2;subst this;exact(h hh).mono λa h' ⟨e1,e2⟩=>⟨.a v,ρ,rfl,by rw[e2];exact .refl _ _,λid ob hi=>.inl hi,by rw[GS];exact e1⟩
def je{α:Type}(e:Nat)(l:List α)(enc:α->List SV):slS e l enc=.sl l.length e (l.flatMap enc):=rfl
section
variable {P:Program} {K U:Type} [DecidableEq K] {kv:K->AV} {uv:U->SV} {S:List SO} {t kt et:TypeId} {z:AV} {u0:U} {l:List (K×U)} {o:Nat} {x:SV} {k:K}
def aR(kv:K->AV)(uv:U->SV)(l:List (K×U)):SO:=.map (l.map λe=>kv e.1) (l.map λe=>uv e.2) none
abbrev kc(kv:K->AV)(uv:U->SV)(l:List (K×U)):SV:=.im (l.map λe=>kv e.1) (l.map λe=>uv e.2)
def iy(hk:oE P kt kv)(k:K):∀(l:List (K×U)) (j:Nat),ly P kt (kv k) (l.map λe=>kv e.1) j=some (kJ k l j)
 | [],_=>rfl
 | e::l,j=>by
  rw[a0,ly,hk.eq];by_cases h:k=e.1
  ·simp only[h,decide_true,kJ,if_true]
  ·simp only[h,decide_false,kJ,if_false];exact iy hk k l (j+1)
def pq(hm:bP P t=some (kt,et))(hk:oE P kt kv)(hz:bT P et=some z)(hu:qf z=uv u0)(hS:entS S x=some (l.map (λe=>kv e.1),l.map λe=>uv e.2)){y:SV}(hf:bx y=some (kv k))(ok:Bool):
 lookupS P S t x y ok=some (_root_.cond ok (.aO [uv (getM u0 k l),ao (bl k l)]) (uv (getM u0 k l))):=by
 unfold lookupS;rw[hm,ac];simp only;rw[hf,ac,hk.ck,ab,hS,ac];simp only;rw[iy hk,ac]
 cases hp:kJ k l 0 with
 | none=>
  have hn:=gn hp;simp only[hz,aj,lB hn,hn,hu]
 | some i=>
  obtain⟨_,u,h2,h3,_,h5⟩:=fC hp;rw[dd] at h2;simp only[a6,h2,aj,h3,h5]
def rG(hm:bP P t=some (kt,et))(hk:oE P kt kv)(hz:bT P et=some z)(hu:qf z=uv u0)(hS:S[o]?=some (aR kv uv l))(hf:bx x=some (kv k))(ok:Bool):
 lookupS P S t (.map o) x ok=some (_root_.cond ok (.aO [uv (getM u0 k l),ao (bl k l)]) (uv (getM u0 k l))):=
 pq hm hk hz hu (by simp only[entS,hS,aR]) hf ok
def BW(hm:bP P t=some (kt,et))(hk:oE P kt kv)(hz:bT P et=some z)(hu:qf z=uv u0)(hf:bx x=some (kv k))(ok:Bool):
 lookupS P S t (kc kv uv l) x ok=some (_root_.cond ok (.aO [uv (getM u0 k l),ao (bl k l)]) (uv (getM u0 k l))):=
 pq hm hk hz hu (by simp only[kc,entS]) hf ok
def vB(hm:bP P t=some (kt,et))(hk:oE P kt kv)(hS:S[o]?=some (aR kv uv l))(hf:bx x=some (kv k))(u:U):
 cZ P S t (.map o) x (uv u)=some (S.set o (aR kv uv (bG k u l))):=by
 unfold cZ;rw[hm,ac];simp only;rw[hf,ac,hk.ck,ab,hS];simp only[aR];rw[iy hk,ac]
 cases hp:kJ k l 0 with
 | none=>
  have hn:=gn hp;simp only[iF hn,bv,a0,bw,Option.map_none]
 | some i=>
  obtain⟨_,u',h2,_,h4,_⟩:=fC hp;rw[dd] at h2;have h4:=h4 u;rw[dd] at h4;simp only[a6,h2,aj,ac,hk.st,ab,h4,List.map_set]
omit [DecidableEq K] in
def gl{n:Nat}(h:∀u,names n (uv u)=false):killO n (aR kv uv l)=aR kv uv l:=by
 simp only[killO,aR,List.map_map]
 congr 1
 refine List.map_congr_left λe _=>?_;simp only[Function.comp,aH,h,ah]
omit [DecidableEq K] in
def eo(h:∀u,gw (uv u)=true):∀l:List (K×U),bm (l.map λe=>uv e.2)=true
 | []=>rfl
 | e::l=>by rw[a0,bm,h,d3];exact eo h l
omit [DecidableEq K] in
def mw(h:∀u,gw (uv u)=true)(hS:S[o]?=some (aR kv uv l)):Wk S (.map o) (kc kv uv l):=Wk.map hS (aM.refl (eo h l))
end
def BR{P:Program}{kt:TypeId}(h:P.underlying kt=some .string):oE P kt AV.str where
 eq a b:=by unfold fU;rw[h];simp only[ib]
 ck a:=by unfold nQ uD;rw[h]
 st a:=by unfold stays sR;simp only[gu,Bool.true_and];exact re _ _
def sE{n:Nat}{l:List (List Nat×Bool)}:killO n (aR AV.str ao l)=aR AV.str ao l:=gl λ_=>fG _
def Eg{n:Nat}{l:List (List Nat×Int)}:killO n (aR AV.str aa l)=aR AV.str aa l:=gl λ_=>fG _
end
end Go.Ev
