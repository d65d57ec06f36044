/- Lemmas of this claim, each with its conditions. -/
import Derived.Test.YtjiejanfnnieaaaGreatA2
import Derived.Test.YtjiejanfnnieaaaGreatProg
set_option linter.all false
open Nat (beq ble blt)
open Int (ofNat)
open List (mem_map)
open Nat renaming beq_refl -> aa, lt_of_lt_of_le -> aj, mul_le_mul_right -> a7, le_trans -> a8, zero_add -> a9, zero_le -> ba, min_eq_left -> bd, lt_succ_self -> bt, zero_mul -> bv, le_refl -> b7, lt_irrefl -> cd, le_succ_of_le -> cp, sub_zero -> c0, succ_mul -> d3
open Bool renaming and_eq_true -> ac, and_self -> ad, not_false -> aJ, true_and -> b8, true_or -> co, and_true -> ct, or_false -> d0
open List renaming map_cons -> am, getElem?_cons_succ -> ap, getElem?_cons_zero -> ax, getElem?_set_self -> ay, length_map -> aY, getElem?_set_ne -> a0, drop_drop -> a3, eraseIdx_cons_succ -> a4, getElem?_map -> a5, getElem?_eq_none -> a6, length_drop -> bc, take_zero -> be, drop_of_length_le -> bh, map_append -> bi, map_nil -> bk, drop_zero -> bH, mem_cons_of_mem -> b0, getElem?_append_right -> b6, mem_cons_self -> b9, drop_take -> cb, take_take -> cc, take_of_length_le -> ce, length_take -> ch, all_cons -> ci, length_replicate -> cl, getElem?_append -> cn, eraseIdx_nil -> cv, flatMap_cons -> cM, head?_drop -> c5, length_set -> c6, nil_append -> dc, mapM_cons -> dd, replicate -> dv, take_one -> d2
open And renaming intro -> bb
open Go.Proofs.Tryz renaming prog -> bw
namespace Go.Ev
noncomputable section
def ve:AV->SV
 | .agg cs=>.ag (cs.map .a)
 | v=>.a v
def cR:SV->Option (List SV)
 | .any=>none
 | .ag cs=>some cs
 | .a (.agg cs)=>some (cs.map .a)
 | v=>some [v]
def fq:SV->Bool
 | .any=>false
 | .a v=>kq v
 | .ag _=>false
 | .cq _=>false
 | _=>true
def bf(o:Nat)(v:SV):SV:=cond (names o v) .any v
def eU(o:Nat)(f:Fm):Fm:=f.map λp=>(p.1,bf o p.2)
def cI(o:Nat):SO->SO
 | .cells cs=>.cells (cs.map (bf o))
 | .map ks vs b=>.map ks (vs.map (bf o)) b
 | .iter m bs c pos=>.iter (bf o m) bs c pos
 | .pI ks vs bs c pos=>.pI ks vs bs c pos
 | .gone=>.gone
 | .loop c ls p f=>.loop c ls p (eU o f)
 | .nd N=>.nd N
def gf(f:Fm):Operand->Option SV
 | .tmp i=>if i<1000000 then some (aP f i) else none
 | .const v=>(mn na v).map ve
 | .func g=>some (.fn g [] [])
 | .global _=>none
def qt(f:Fm):List Operand->Option (List SV)
 | []=>some []
 | x::l=>(gf f x).bind λa=>(qt f l).map λb=>a::b
def l8(f:Fm):List (Nat×Operand)->Option (List (Nat×SV))
 | []=>some []
 | (i,x)::l=>(gf f x).bind λa=>(l8 f l).map λb=>(i,a)::b
def x8(f:Fm):Option Operand->Option (Option AV)
 | none=>some none
 | some x=>match gf f x with
  | some (.a v)=>some (some v)
  | _=>none
def qN{α:Type}(p:Prop)[Decidable p](x:Option α):Option α:=if p then x else none
def Iv(P:Program)(t:TypeId):Option (Nat×Bool):=(qZ P t).bind λb=>(cy P t).map λn=>(n,b)
def I9(P:Program)(s:TypeId)(f:Nat):Option (Nat×TypeId×Nat):=match P.underlying s with
 | some (.struct fs)=>cond (fs.toList.all λf=>(cy P f.type).isSome) ((fs[f]?).bind λfd=>(cy P fd.type).map λn=>(fd.offset,fd.type,n)) none
 | _=>none
def Rf(P:Program)(t:TypeId):Option (Option Nat):=match P.underlying t with
 | some (.struct fs)=>cond (fs.toList.all λf=>(cy P f.type).isSome) (some none) none
 | some (.array _ e)=>(cy P e).map some
 | _=>none
def I1(P:Program)(t:TypeId):Option (TypeId×Nat):=match P.underlying t with
 | some (.slice e)=>(cy P e).map λs=>(e,s)
 | _=>none
def S5(P:Program)(t:TypeId):Option (Nat×TypeId×Nat):=match P.underlying t with
 | some (.array n e)=>(cy P e).map λs=>(n,e,s)
 | _=>none
inductive TK where
 | str | sl | map | other
def jk(P:Program)(t:TypeId):TK:=match P.underlying t with
 | some .string=>.str
 | some (.slice _)=>.sl
 | some (.map _ _)=>.map
 | _=>.other
def uH(P:Program)(t:TypeId)(cs:List SV)(off:Nat):Option SV:=(Iv P t).bind λq=>match q.2 with
 | true=>qN (off+q.1<=cs.length) (some (.ag ((cs.drop off).take q.1)))
 | false=>cs[off]?
def ud(place:Nat->Option (Nat×Nat))(cells:List SV):List (Nat×SV)->Option (List SV)
 | []=>some cells
 | (i,v)::rest=>match place i with
  | none=>none
  | some (off,size)=>(cR v).bind λcs=>
   qN (cs.length=size/\off+size<=cells.length) (ud place (cells.take off++(cs++cells.drop (off+size))) rest)
def DD(P:Program)(t:TypeId)(parts:List (Nat×SV)):Option SV:=
 (dm P t).bind λz=>(Rf P t).bind λq=>match q with
  | none=>(ud (λi=>(I9 P t i).map λq=>(q.1,q.2.2)) (z.cells.map .a) parts).map .ag
  | some s=>(ud (λi=>some (i*s,s)) (z.cells.map .a) parts).map .ag
def nP(P:Program)(t:TypeId)(len:Nat)(parts:List (Nat×SV)):Option (Nat×List SV):=
 (I1 P t).bind λq=>(dm P q.1).bind λz=>
  qN (len*q.2<=16777216/\z.cells.length=q.2/\q.2≠0)
   ((ud (λi=>some (i*q.2,q.2)) ((rep z.cells len).map .a) parts).map λcs=>(q.2,cs))
mutual
def cU:SV->Option AV
 | .a v=>some v
 | .ag cs=>(ji cs).map .agg
 | .iface t v=>(cU v).map (.iface t)
 | _=>none
def ji:List SV->Option (List AV)
 | []=>some []
 | d::ds=>(cU d).bind λa=>(ji ds).map λb=>a::b
end
def Jt:SV->Option Nat
 | .a v=>dh v
 | _=>none
def uh(P:Program)(kt:TypeId)(k:AV):List AV->Nat->Option (Option Nat)
 | [],_=>some none
 | e::es,i=>match lT P 4 kt k e with
  | some true=>some (some i)
  | some false=>uh P kt k es (i+1)
  | none=>none
def By(S:List SO):SV->Option (List AV×List SV)
 | .map o=>match S[o]? with
  | some (.map ks vs _)=>some (ks,vs)
  | _=>none
 | .im ks vs=>some (ks,vs)
 | .a (.map none)=>some ([],[])
 | _=>none
def jv(P:Program)(S:List SO)(t:TypeId)(x k:SV)(ok:Bool):Option SV:=
 (dy P t).bind λ(kt,et)=>(cU k).bind λk=>cond (xY P kt k)
  ((By S x).bind λ(ks,vs)=>(uh P kt k ks 0).bind λr=>
   let v:Option (SV×Bool):=match r with
    | some i=>(vs[i]?).map λe=>(e,true)
    | none=>(dm P et).map λz=>(ve z,false)
   v.map λ(v,b)=>cond ok (.cq [v,.a (.bool b)]) v) none
def iR(P:Program)(S:List SO)(t:TypeId)(x k v:SV):Option (List SO):=
 (dy P t).bind λ(kt,_)=>(cU k).bind λk=>cond (xY P kt k)
  (
   match x with
   | .map o=>match S[o]? with
    | some (.map ks vs b)=>(uh P kt k ks 0).bind λr=>match r with
     | some i=>(ks[i]?).bind λk0=>cond (stays k k0) (some (S.set o (.map (ks.set i k) (vs.set i v) b))) none
     | none=>some (S.set o (.map (ks++[k]) (vs++[v]) (b.map λp=>(p.1++[p.2],p.2+1))))
    | _=>none
   | _=>none) none
def MC(P:Program)(S:List SO)(t:TypeId)(x k:SV):Option (List SO):=
 (dy P t).bind λ(kt,_)=>(cU k).bind λk=>cond (xY P kt k)
  (
   match x with
   | .map o=>match S[o]? with
    | some (.map ks vs b)=>(uh P kt k ks 0).map λr=>match r with
     | some i=>S.set o (.map (ks.eraseIdx i) (vs.eraseIdx i) (b.map λp=>(p.1.eraseIdx i,p.2)))
     | none=>S
    | _=>none
   | _=>none) none
def Au(P:Program)(S:List SO)(t:TypeId)(x:SV):Option Nat:=match jk P t,x with
 | .str,.a (.str s)=>some s.length
 | .sl,.sl n _ _=>some n
 | .sl,.buf _ n _ _=>some n
 | .sl,.a (.slice none n _ _)=>some n
 | .map,x=>(By S x).map λe=>e.1.length
 | .sl,.sub _ _ n _ _=>some n
 | .sl,.e0 _=>some 0
 | _,_=>none
def uT(S:List SO)(s:Nat):SV->Option (Nat×List SV)
 | .sl n e cs=>qN (e=s) (some (n,cs))
 | .buf o n e _=>match S[o]? with
  | some (.cells cs)=>qN (e=s/\n*s<=cs.length) (some (n,cs.take (n*s)))
  | _=>none
 | .a (.slice none 0 0 (some 0))=>some (0,[])
 | .sub o off n e _=>match S[o]? with
  | some (.cells cs)=>qN (e=s/\off+n*s<=cs.length) (some (n,(cs.drop off).take (n*s)))
  | _=>none
 | .e0 _=>some (0,[])
 | _=>none
def eC(o:Nat)(S:List SO):List SO:=S.map (cI o)
def gy(S:List SO)(so:SO):List SO:=eC S.length S++[cI S.length so]
def pP(P:Program)(e:TypeId):Bool:=match P.info? e with
 | some i=>ble i.bytes 10000
 | none=>false
def Oe(S:List SO):SV->Option (SV×List SO×Option Nat)
 | .a (.slice none 0 0 (some 0))=>some (.a (.slice none 0 0 (some 0)),S,none)
 | .buf o n e c=>qN (n<=1000000) (some (.buf o n e c,S,none))
 | .e0 e=>some (.e0 e,S,none)
 | _=>none
def Mf(S:List SO)(s:Nat)(x:SV)(p:Nat×List SV):Option (SV×List SO×Option Nat):=match x with
 | .a (.slice none 0 0 (some 0))=>some (.buf S.length p.1 s none,gy S (.cells p.2),some S.length)
 | .buf o n es none=>match S[o]? with
  | some (.cells cs)=>qN (es=s/\n<=1000000/\n*es<=cs.length)
   (some (.buf o (n+p.1) es none,(eC o S).set o (cI o (.cells (cs.take (n*es)++p.2))),some o))
  | _=>none
 | .e0 e=>qN (e=s) (some (.buf S.length p.1 s none,gy S (.cells p.2),some S.length))
 | .buf o n es (some c)=>match S[o]? with
  | some (.cells cs)=>qN (es=s/\n<=1000000/\n*es<=cs.length/\c<n+p.1)
   (some (.buf S.length (n+p.1) es none,gy S (.cells (cs.take (n*es)++p.2)),some S.length))
  | _=>none
 | _=>none
def isInt(P:Program)(t:TypeId):Bool:=match P.underlying t with
 | some (.int _)=>true
 | _=>false
def yC(P:Program)(S:List SO)(xt:TypeId)(s:Nat)(z:AV)(y:SV):Option (Nat×List SV):=match jk P xt with
 | .sl=>uT S s y
 | .other=>cond (isInt P xt) ((Jt y).bind λn=>qN (n<=1000000) (some (n,(rep z.cells n).map .a))) none
 | _=>none
def yk(P:Program)(S:List SO)(st xt:TypeId)(x y:SV):Option (SV×List SO×Option Nat):=
 (I1 P st).bind λq=>(dm P q.1).bind λz=>qN (z.cells.length=q.2/\q.2≠0/\pP P q.1=true)
  ((yC P S xt q.2 z y).bind λp=>if p.1=0 then Oe S x else qN (p.1<=1000000/\p.2.all fq=true) (Mf S q.2 x p))
def BH(isMax:Bool):SV->List SV->Option SV
 | x,[]=>some x
 | .a x,.a y::l=>(AD isMax x y).bind λz=>BH isMax (.a z) l
 | _,_=>none
def UC:SV->Option (Nat×Nat×Nat×Nat)
 | .buf o n e _=>some (o,0,n,e)
 | .sub o off n e _=>some (o,off,n,e)
 | _=>none
def OL(S:List SO)(s o off des:Nat)(rows:List SV)(n:Nat):Option (SV×List SO×Option Nat):=
 if n=0 then some (.a (.int .i64 0),S,none) else match S[o]? with
  | some (.cells cs)=>qN (des=s/\off+n*s<=cs.length/\n*s<=rows.length/\(rows.take (n*s)).all fq=true)
   (some (.a (.int .i64 (n:Nat)),S.set o (.cells (cs.take off++(rows.take (n*s)++cs.drop (off+n*s)))),none))
  | _=>none
def K0(P:Program)(S:List SO)(t:TypeId)(x y:SV):Option (SV×List SO×Option Nat):=(I1 P t).bind λq=>(UC x).bind λ(o,off,dl,des)=>(uT S q.2 y).bind λp=>
 OL S q.2 o off des p.2 (Nat.min p.1 dl)
def DG(P:Program)(S:List SO)(t:TypeId)(x:SV):Option (SV×List SO×Option Nat):=(I1 P t).bind λq=>(dm P q.1).bind λz=>(UC x).bind λ(o,off,n,es)=>
 if n=0 then some (.a mg,S,none) else match S[o]? with
  | some (.cells cs)=>qN (es=q.2/\z.cells.length=q.2/\off+n*q.2<=cs.length/\(rep z.cells n).all kq=true)
   (some (.a mg,S.set o (.cells (cs.take off++((rep z.cells n).map .a++cs.drop (off+n*q.2)))),none))
  | _=>none
def IU:SV->Option Nat
 | .a (.slice none 0 0 (some 0))=>some 0
 | .buf _ _ _ (some c)=>some c
 | .sub _ _ _ _ (some c)=>some c
 | .e0 _=>some 0
 | _=>none
def ie(P:Program)(S:List SO)(b:Builtin)(ats:List TypeId)(xs:List SV):Option (SV×List SO×Option Nat):=match b,ats,xs with
 | .append,st::xt::_,[x,y]=>yk P S st xt x y
 | .len,t::_,x::_=>(Au P S t x).map λ(n:Nat)=>((SV.a (.int .i64 (n:Int)),S,none):SV×List SO×Option Nat)
 | .min,_,x::l=>(BH false x l).map λv=>(v,S,none)
 | .max,_,x::l=>(BH true x l).map λv=>(v,S,none)
 | .delete,t::_,x::k::_=>(MC P S t x k).map λS=>(.a mg,S,none)
 | .copy,dt::_,[x,y]=>K0 P S dt x y
 | .clear,t::_,[x]=>DG P S t x
 | .cap,t::_,[x]=>(I1 P t).bind λ_=>(IU x).map λ(c:Nat)=>((SV.a (.int .i64 (c:Int)),S,none):SV×List SO×Option Nat)
 | _,_,_=>none
def LG:Option SV->Option SV->Option SV->Option SV
 | some (.a (.bool z)),some x,some y=>some (cond z x y)
 | _,_,_=>none
def Av(P:Program)(S:List SO)(tt:TypeId):SV->Option SV
 | .ptr o off=>match S[o]? with
  | some (.cells cs)=>uH P tt cs off
  | _=>none
 | .ip cs=>uH P tt cs 0
 | _=>none
def EF(P:Program)(S:List SO)(tt:TypeId)(a x:SV):Option (List SO):=match a with
 | .ptr o off=>match S[o]? with
  | some (.cells cs)=>(Iv P tt).bind λq=>(cR x).bind λvs=>
   qN (vs.length=q.1/\off+q.1<=cs.length/\vs.all fq=true) (some (S.set o (.cells (cs.take off++(vs++cs.drop (off+q.1))))))
  | _=>none
 | _=>none
def bF(P:Program):SV->Option SV
 | .ptr o off=>some (.ptr o off)
 | .ip cs=>some (.ip cs)
 | .fn g a b=>some (.fn g a b)
 | .sl n e cs=>some (.sl n e cs)
 | .buf o n e c=>some (.buf o n e c)
 | .sub o off n e c=>some (.sub o off n e c)
 | .e0 e=>some (.e0 e)
 | .a (.fn (.method nm) [.iface t v] ys)=>(jw P t nm).map λ_=>.a (.fn (.method nm) [.iface t v] ys)
 | _=>none
def pV(P:Program)(s:TypeId)(x:SV)(f:Nat):Option SV:=(I9 P s f).bind λq=>qN (q.2.2≠0) (match x with
 | .ptr o off=>some (.ptr o (off+q.1))
 | .ip cs=>qN (q.1<=cs.length) (some (.ip (cs.drop q.1)))
 | _=>none)
def zy(P:Program)(s:TypeId)(x:SV)(f:Nat):Option SV:=match x with
 | .ag cs=>(I9 P s f).bind λq=>uH P q.2.1 cs q.1
 | _=>none
def qc(P:Program)(t:TypeId)(x:SV)(i:SV):Option SV:=(Jt i).bind λi=>match S5 P t with
 | some q=>qN (i<q.1) (match x with
  | .ptr o off=>some (.ptr o (off+i*q.2.2))
  | .ip cs=>qN (i*q.2.2<=cs.length) (some (.ip (cs.drop (i*q.2.2))))
  | _=>none)
 | none=>(I1 P t).bind λq=>match x with
  | .sl n es cs=>qN (i<n/\q.2=es) (some (.ip ((cs.drop (i*q.2)).take q.2)))
  | .buf o n es _=>qN (i<n/\q.2=es) (some (.ptr o (i*q.2)))
  | .sub o off n es _=>qN (i<n/\q.2=es) (some (.ptr o (off+i*q.2)))
  | _=>none
def D0(P:Program)(t:TypeId)(x:SV)(i:SV):Option SV:=(Jt i).bind λi=>match x with
 | .ag cs=>(S5 P t).bind λq=>qN (i<q.1) (uH P q.2.1 cs (i*q.2.2))
 | .a (.str s)=>match jk P t with
  | .str=>(s[i]?).map λb=>.a (.int .u8 (ofNat b))
  | _=>none
 | _=>none
def nA(P:Program)(t:TypeId)(x:SV)(lo hi mx:Option AV):Option SV:=match jk P t,x with
 | .str,.a (.str s)=>match mx with
  | some _=>none
  | none=>(cO s.length (some s.length) lo hi none).map λ(l,hh,_)=>.a (.str ((s.drop l).take (hh-l)))
 | .sl,.sl n es cs=>match mx with
  | some m=>(I1 P t).bind λq=>qN (lo=none/\hi.bind dh=some 0/\dh m=some 0/\q.2=es) (some (.e0 q.2))
  | none=>(I1 P t).bind λq=>(cO n none lo hi none).bind λ(l,hh,_)=>qN (q.2=es) (some (.sl (hh-l) q.2 ((cs.drop (l*q.2)).take ((hh-l)*q.2))))
 | .sl,.buf o n es c=>match mx with
  | some _=>none
  | none=>(I1 P t).bind λq=>(cO n c lo hi none).bind λ(l,hh,m)=>qN (q.2=es) (some (match lo with
   | none=>.buf o (hh-l) q.2 (bP m l)
   | some _=>.sub o (l*q.2) (hh-l) q.2 (bP m l)))
 | .sl,.sub o off n es c=>match mx with
  | some _=>none
  | none=>(I1 P t).bind λq=>(cO n c lo hi none).bind λ(l,hh,m)=>qN (q.2=es) (some (.sub o (off+l*q.2) (hh-l) q.2 (bP m l)))
 | .sl,.a (.slice none 0 0 (some 0))=>(I1 P t).bind λ_=>(cO 0 (some 0) lo hi mx).map λ_=>.a (.slice none 0 0 (some 0))
 | .sl,.e0 e=>(I1 P t).bind λq=>(cO 0 (some 0) lo hi mx).bind λ(l,hh,m)=>qN (l=0/\hh=0/\m=some 0/\q.2=e) (some (.e0 e))
 | _,_=>none
def Lh(P:Program)(t:TypeId):Bool:=match P.underlying t with
 | some (.interface _)=>false
 | some _=>true
 | none=>false
def dO(P:Program)(f:Fm)(S:List SO)(op:Op):Option (SV×List SO×Option Nat):=match op with
 | .move x=>(gf f x).map λv=>(v,S,none)
 | .assign x=>(gf f x).map λv=>(v,S,none)
 | .pick c a b=>(LG (gf f c) (gf f a) (gf f b)).map λv=>(v,S,none)
 | .alloc e=>(dm P e).map λz=>(.ptr S.length 0,gy S (.cells (z.cells.map .a)),some S.length)
 | .box _ x=>(gf f x).bind λv=>(cR v).map λcs=>(.ptr S.length 0,gy S (.cells cs),some S.length)
 | .build tt ps=>(l8 f ps.toList).bind λl=>(DD P tt l).map λv=>(v,S,none)
 | .buildSlice tt n ps=>(l8 f ps.toList).bind λl=>(nP P tt n l).map λq=>(.buf S.length n q.1 (some n),gy S (.cells q.2),some S.length)
 | .makeMap _ none=>some (.map S.length,gy S (.map [] [] none),some S.length)
 | .makeSlice tt l c=>match gf f l,gf f c with
  | some (.a l),some (.a c)=>(kV P tt l c).map λq=>(.buf S.length q.1 q.2.1 (some q.2.2.1),gy S (.cells (q.2.2.2.map .a)),some S.length)
  | _,_=>none
 | .load tt a=>(gf f a).bind λa=>(Av P S tt a).map λv=>(v,S,none)
 | .store tt a x=>(gf f a).bind λa=>(gf f x).bind λx=>(EF P S tt a x).map λS=>(.a mg,S,none)
 | .nilCheck x=>(gf f x).bind λx=>(bF P x).map λv=>(v,S,none)
 | .binOp op t x y _=>(gf f x).bind λx=>(gf f y).bind λy=>(cU x).bind λx=>(cU y).bind λy=>(dj P op t x y).map λv=>(.a v,S,none)
 | .unOp op _ x=>(gf f x).bind λx=>(cU x).bind λx=>(Uv op x).map λv=>(.a v,S,none)
 | .convert s d x=>(gf f x).bind λx=>(cU x).bind λx=>(mZ P s d x).map λv=>(.a v,S,none)
 | .makeInterface t x=>cond (Lh P t) ((gf f x).map λv=>(.iface t v,S,none)) none
 | .makeFunc (.func g) first cap=>(qt f first.toList).bind λa=>(qt f cap.toList).map λb=>(.fn g a b,S,none)
 | .slice tt x lo hi mx=>(gf f x).bind λx=>(x8 f lo).bind λlo=>(x8 f hi).bind λhi=>(x8 f mx).bind λmx=>(nA P tt x lo hi mx).map λv=>(v,S,none)
 | .fieldAddr s x fl=>(gf f x).bind λx=>(pV P s x fl).map λv=>(v,S,none)
 | .field s x fl=>(gf f x).bind λx=>(zy P s x fl).map λv=>(v,S,none)
 | .indexAddr t x i=>(gf f x).bind λx=>(gf f i).bind λi=>(qc P t x i).map λv=>(v,S,none)
 | .index t x i=>(gf f x).bind λx=>(gf f i).bind λi=>(D0 P t x i).map λv=>(v,S,none)
 | .lookup t x k ok=>(gf f x).bind λx=>(gf f k).bind λk=>(jv P S t x k ok).map λv=>(v,S,none)
 | .mapUpdate t m k x=>(gf f m).bind λm=>(gf f k).bind λk=>(gf f x).bind λx=>(iR P S t m k x).map λS=>(.a mg,S,none)
 | .insert t m k x=>(gf f m).bind λm=>(gf f k).bind λk=>(gf f x).bind λx=>(iR P S t m k x).map λS=>(.a mg,S,none)
 | .extract x i=>match gf f x with
  | some (.cq vs)=>(vs[i]?).map λv=>(v,S,none)
  | _=>none
 | .call { callee:=.builtin b,args:=aS,argTypes:=ats }=>(qt f aS.toList).bind λxs=>ie P S b ats.toList xs
 | .makeFunc (.method nm) first cap=>(qt f first.toList).bind λa=>(ji a).bind λa=>(qt f cap.toList).bind λb=>(ji b).map λb=>(.a (.fn (.method nm) a b),S,none)
 | _=>none
def jX(k:Option Nat)(v:SV):SV:=match k with
 | none=>v
 | some o=>bf o v
def kS(f:Fm)(kill:Option Nat):Fm:=match kill with
 | none=>f
 | some o=>eU o f
def tc(f:Fm)(kill:Option Nat)(dst:Option Tmp)(v:SV):Fm:=match dst with
 | none=>kS f kill
 | some d=>(d,v)::kS f kill
section
variable {θ:Nat->Loc} {ρ:kG} {P:Program}
theorem da.a:∀(aS:List AV),da θ ρ (aS.map .a) aS
 | []=>by rw[bk,bj]
 | a::aS=>by rw[am,aM];exact⟨a,aS,rfl,by rw[VS],da.a aS⟩
def A2(v:AV):VS θ ρ (ve v) v:=by
 unfold ve;split
 ·rw[VS];exact⟨_,rfl,da.a _⟩
 ·rw[VS]
def bL{f:Fm}{af:Nat->AV}{n:Nat}{wv:Nat->AV}(hF:FR θ ρ (aP f) af n wv){x:Operand}{v:SV}(h:gf f x=some v):∃a,ev (eB af n) x=some a/\VS θ ρ v a:=by
 cases x with
 | tmp i=>
  simp only[gf] at h
  have hlim:i<1000000:=by
   apply Decidable.byContradiction;intro hn;rw[ut hn] at h;cases h
  rw[un hlim] at h;cases h;have:=hF.v i;by_cases hi:i<n
  ·rw[un hi] at this;exact⟨_,TU hi,this⟩
  ·rw[ut hi,hF.u i hlim] at this
   exact⟨mg,by
    have:(eB af n).get i=none:=A3 af n i (Nat.le_of_not_lt hi)
    simp only[ev,this],this⟩
 | const c=>
  simp only[gf] at h;obtain⟨a,ha,rfl⟩:=au h;exact⟨a,ha,A2 a⟩
 | func g=>
  simp only[gf,qr] at h;subst h;exact⟨_,Rz,by rw[VS];exact⟨[],[],rfl,by rw[bj],by rw[bj]⟩⟩
 | global g=>simp[gf] at h
def mD{f:Fm}{af:Nat->AV}{n:Nat}{wv:Nat->AV}(hF:FR θ ρ (aP f) af n wv):∀{l:List Operand} {vs:List SV},qt f l=some vs->∃aS,Bz (eB af n) l=some aS/\da θ ρ vs aS
 | [],vs,h=>by
  simp only[qt,qr] at h;subst h;exact⟨[],rfl,by rw[bj]⟩
 | x::l,vs,h=>by
  rw[qt] at h;obtain⟨v,hv,h⟩:=t8 h;obtain⟨ws,hw,rfl⟩:=au h;obtain⟨a,ha,ka⟩:=bL hF hv;obtain⟨aS,hs,ks⟩:=mD hF hw;exact⟨a::aS,by rw[OX,ha,hs];rfl,by rw[aM];exact⟨a,aS,rfl,ka,ks⟩⟩
def UK(θ:Nat->Loc)(ρ:kG):List (Nat×SV)->List (Nat×AV)->Prop
 | [],aS=>aS=[]
 | (i,v)::l,aS=>∃a r,aS=(i,a)::r/\VS θ ρ v a/\UK θ ρ l r
def wK{f:Fm}{af:Nat->AV}{n:Nat}{wv:Nat->AV}(hF:FR θ ρ (aP f) af n wv):∀{l:List (Nat×Operand)} {vs:List (Nat×SV)},l8 f l=some vs->∃aS,lZ (eB af n) l=some aS/\UK θ ρ vs aS
 | [],vs,h=>by
  simp only[l8,qr] at h;subst h;exact⟨[],rfl,rfl⟩
 | (i,x)::l,vs,h=>by
  rw[l8] at h;obtain⟨v,hv,h⟩:=t8 h;obtain⟨ws,hw,rfl⟩:=au h;obtain⟨a,ha,ka⟩:=bL hF hv;obtain⟨aS,hs,ks⟩:=wK hF hw;exact⟨(i,a)::aS,by rw[Hi,ha,hs];rfl,a,aS,rfl,ka,ks⟩
def ED{f:Fm}{af:Nat->AV}{n:Nat}{wv:Nat->AV}(hF:FR θ ρ (aP f) af n wv){o:Option Operand}{v:Option AV}(h:x8 f o=some v):OW (eB af n) o=some v:=by
 cases o with
 | none=>simp only[x8,qr] at h;subst h;rfl
 | some x=>
  simp only[x8] at h;split at h
  ·rename_i w hw;cases h;obtain⟨a,ha,ka⟩:=bL hF hw;rw[VS] at ka;subst ka;simp only[OW,ha,m6]
  ·cases h
def cells_one{v:AV}(h:∀cs,v≠.agg cs):v.cells=[v]:=by
 cases v<;>first | rfl | exact ul rfl (h _)
def vM{v:SV}{x:AV}(hv:VS θ ρ v x){cs:List SV}(h:cR v=some cs):da θ ρ cs x.cells:=by
 have one:∀{w:SV},VS θ ρ w x->(∀cs,x≠.agg cs)->da θ ρ [w] x.cells:=by
  intro w hw hx;rw[cells_one hx,aM];exact⟨x,[],rfl,hw,by rw[bj]⟩
 cases v with
 | any=>simp[cR] at h
 | a v=>
  have hv':=hv;rw[VS] at hv;subst hv
  cases x with
  | agg cs'=>simp only[cR,qr] at h;subst h;exact da.a _
  | _=>simp only[cR,qr] at h;subst h;exact one hv' (λ_ h=>by cases h)
 | ag cs'=>
  simp only[cR,qr] at h;subst h;rw[VS] at hv;obtain⟨aS,rfl,h2⟩:=hv;exact h2
 | sl n e cs'=>
  simp only[cR,qr] at h;subst h;refine one hv ?_;rw[VS,GS] at hv
  rcases hv with⟨_,_,o,e',c,rfl,_,_⟩ | ⟨id,off,cap,row,rfl,_⟩<;>exact λ_ h=>by cases h
 | im ks vs=>
  simp only[cR,qr] at h;subst h;refine one hv ?_;rw[VS,GS] at hv;obtain⟨id,l,c,rfl,_⟩:=hv
  exact λ_ h=>by cases h
 | ip cs'=>
  simp only[cR,qr] at h;subst h;refine one hv ?_;rw[VS,GS] at hv;obtain⟨id,off,row,r,rfl,_⟩:=hv
  exact λ_ h=>by cases h
 | ptr o off=>
  simp only[cR,qr] at h;subst h;refine one hv ?_
  rw[VS] at hv;subst hv;exact λ_ h=>by cases h
 | map o=>
  simp only[cR,qr] at h;subst h;refine one hv ?_
  rw[VS] at hv;subst hv;exact λ_ h=>by cases h
 | buf o n e c=>
  simp only[cR,qr] at h;subst h;refine one hv ?_
  rw[VS] at hv;subst hv;exact λ_ h=>by cases h
 | sub o off n e c=>
  simp only[cR,qr] at h;subst h;refine one hv ?_
  rw[VS] at hv;subst hv;exact λ_ h=>by cases h
 | e0 e=>
  simp only[cR,qr] at h;subst h;refine one hv ?_
  rw[VS] at hv;obtain⟨o,e',rfl,_⟩:=hv;exact λ_ h=>by cases h
 | cq vs=>
  simp only[cR,qr] at h;subst h;refine one hv ?_
  rw[VS] at hv;obtain⟨aS,rfl,_⟩:=hv;exact λ_ h=>by cases h
 | fn g a b=>
  simp only[cR,qr] at h;subst h;refine one hv ?_
  rw[VS] at hv;obtain⟨aS,bs,rfl,_⟩:=hv;exact λ_ h=>by cases h
 | iface t v=>
  simp only[cR,qr] at h;subst h;refine one hv ?_
  rw[VS] at hv;obtain⟨y,rfl,_⟩:=hv;exact λ_ h=>by cases h
def Se{v:SV}{x:AV}(hv:VS θ ρ v x)(h:fq v=true):kq x=true:=by
 cases v with
 | any=>simp[fq] at h
 | a v=>rw[VS] at hv;subst hv;exact h
 | ag cs=>simp[fq] at h
 | cq cs=>simp[fq] at h
 | sl n e cs=>rw[VS,GS] at hv;rcases hv with⟨_,_,o,e',c,rfl,_,_⟩ | ⟨id,off,cap,row,rfl,_⟩<;>rfl
 | im ks vs=>rw[VS,GS] at hv;obtain⟨id,l,c,rfl,_⟩:=hv;rfl
 | ip cs=>rw[VS,GS] at hv;obtain⟨id,off,row,r,rfl,_⟩:=hv;rfl
 | ptr o off=>rw[VS] at hv;subst hv;rfl
 | map o=>rw[VS] at hv;subst hv;rfl
 | buf o n e c=>rw[VS] at hv;subst hv;rfl
 | sub o off n e c=>rw[VS] at hv;subst hv;rfl
 | e0 e=>rw[VS] at hv;obtain⟨o,e',rfl,_⟩:=hv;rfl
 | fn g a b=>rw[VS] at hv;obtain⟨aS,bs,rfl,_⟩:=hv;rfl
 | iface t v=>rw[VS] at hv;obtain⟨y,rfl,_⟩:=hv;rfl
def mH:∀{vs:List SV} {xs:List AV},da θ ρ vs xs->vs.all fq=true->xs.all kq=true
 | [],xs,hv,_=>by rw[bj] at hv;subst hv;rfl
 | d::ds,xs,hv,h=>by
  rw[aM] at hv;obtain⟨a,r,rfl,h1,h2⟩:=hv;rw[ci,ac] at h ⊢;exact⟨Se h1 h.1,mH h2 h.2⟩
def cf{α:Type}{p:Prop}[Decidable p]{x:Option α}{y:α}(h:qN p x=some y):p/\x=some y:=by
 unfold qN at h;split at h
 ·rename_i hp;exact⟨hp,h⟩
 ·cases h
def vx{t:TypeId}{q:Nat×Bool}(h:Iv P t=some q):qZ P t=some q.2/\cy P t=some q.1:=by
 unfold Iv at h;obtain⟨b,hb,h⟩:=t8 h;obtain⟨n,hn,rfl⟩:=au h;exact⟨hb,hn⟩
def vU{s:TypeId}{f:Nat}{q:Nat×TypeId×Nat}(h:I9 P s f=some q):∃fs fd,P.underlying s=some (.struct fs)/\fs.toList.all (λf=>(cy P f.type).isSome)=true/\fs[f]?=some fd/\cy P fd.type=some q.2.2/\fd.offset=q.1/\fd.type=q.2.1:=by
 unfold I9 at h;split at h
 ·rename_i fs hu;obtain⟨hb,h⟩:=aF h;obtain⟨fd,hfd,h⟩:=t8 h;obtain⟨n,hn,rfl⟩:=au h;exact⟨fs,fd,hu,hb,hfd,hn,rfl,rfl⟩
 ·cases h
def gG{t:TypeId}{q:TypeId×Nat}(h:I1 P t=some q):P.underlying t=some (.slice q.1)/\cy P q.1=some q.2:=by
 unfold I1 at h;split at h
 ·rename_i e hu;obtain⟨n,hn,rfl⟩:=au h;exact⟨hu,hn⟩
 ·cases h
def FO{t:TypeId}{q:Nat×TypeId×Nat}(h:S5 P t=some q):P.underlying t=some (.array q.1 q.2.1)/\cy P q.2.1=some q.2.2:=by
 unfold S5 at h;split at h
 ·rename_i n e hu;obtain⟨s,hs,rfl⟩:=au h;exact⟨hu,hs⟩
 ·cases h
def As{t:TypeId}(h:jk P t=.str):P.underlying t=some .string:=by
 unfold jk at h
 split at h<;>first | assumption | cases h
def qg{t:TypeId}(h:jk P t=.sl):∃e,P.underlying t=some (.slice e):=by
 unfold jk at h
 split at h<;>first | exact⟨_,by assumption⟩ | cases h
def Pm{t:TypeId}(h:jk P t=.map):∃k e,P.underlying t=some (.map k e):=by
 unfold jk at h
 split at h<;>first | exact⟨_,_,by assumption⟩ | cases h
def uI{t:TypeId}{cs:List SV}{aS:List AV}(hv:da θ ρ cs aS){off:Nat}{v:SV}(h:uH P t cs off=some v):∃a,ff P t aS off=some a/\VS θ ρ v a:=by
 unfold uH at h;obtain⟨q,hq,h⟩:=t8 h;obtain⟨h1,h2⟩:=vx hq;obtain⟨n,b⟩:=q;unfold ff;simp only at h1 h2 h;rw[h1];cases b
 ·exact hv.get h
 ·simp only at h ⊢;obtain⟨hle,h⟩:=cf h;cases h;rw[h2,m7,hv.length,fj hle,ar];exact⟨_,rfl,by rw[VS];exact⟨_,rfl,(hv.drop off).take n⟩⟩
def CE{h:H}{id:Nat}{aS:List AV}(hr:sw h.aU id=some aS)(t:TypeId)(off:Nat):h.load P t id off=ff P t aS off:=by
 unfold H.load ff H.chunk;unfold sw at hr
 cases ho:h.aU.get id with
 | none=>rw[ho] at hr;cases hr
 | some ob=>
  rw[ho] at hr
  cases ob with
  | cells cs bQ=>
   have hr:some cs=some aS:=hr;cases hr
   cases qZ P t with
   | none=>rfl
   | some b=>
    cases b
    ·rfl
    ·simp only
     cases cy P t with
     | none=>rfl
     | some n=>simp only[m7];cases ble (off+n) aS.length<;>rfl
  | ro cs=>
   have hr:some cs=some aS:=hr;cases hr
   cases qZ P t with
   | none=>rfl
   | some b=>
    cases b
    ·rfl
    ·simp only
     cases cy P t with
     | none=>rfl
     | some n=>simp only[m7];cases ble (off+n) aS.length<;>rfl
  | _=>cases hr
def Ng{t:TypeId}{row:List AV}{off r k:Nat}(hl:off+r<=row.length){v:AV}(h:ff P t ((row.drop off).take r) k=some v):ff P t row (off+k)=some v:=by
 unfold ff at h ⊢;split at h
 ·obtain⟨n,hn,h⟩:=t8 h;obtain⟨hb,h⟩:=aF h;cases h;have hb:=md hb;rw[ch,bc] at hb;rw[hn,m7,fj (show off+k+n<=row.length by omega),ar,cb,cc,a3,bd ii]
 ·rw[List.getElem?_take] at h;split at h
  ·rw[List.getElem?_drop] at h;exact h
  ·cases h
 ·cases h
def ue{place:Nat->Option (Nat×Nat)}:∀{parts:List (Nat×SV)} {ps:List (Nat×AV)} {cells:List SV} {aS:List AV} {out:List SV},UK θ ρ parts ps->da θ ρ cells aS->ud place cells parts=some out->∃o,kC place aS ps=some o/\da θ ρ out o
 | [],ps,cells,aS,out,hp,hc,h=>by
  have hp:ps=[]:=hp;subst hp;simp only[ud,qr] at h;subst h;exact⟨aS,rfl,hc⟩
 | (i,v)::l,ps,cells,aS,out,hp,hc,h=>by
  obtain⟨a,r,rfl,h1,h2⟩:=hp;simp only[ud] at h;simp only[kC];split at h
  ·cases h
  ·rename_i off size hpl;rw[hpl];simp only;obtain⟨cs,hcs,h⟩:=t8 h;obtain⟨⟨hb1,hb2⟩,h⟩:=cf h;have k:=vM h1 hcs;subst hb1;rw[k.length,hc.length,aa,fj hb2,ad,ar];exact ue h2 ((hc.take off).app (k.app (hc.drop _))) h
def wY{p q:Nat->Option (Nat×Nat)}(hpq:∀i,(p i).isSome=true->q i=p i):∀{ps:List (Nat×AV)} {aS o:List AV},kC p aS ps=some o->kC q aS ps=some o
 | [],aS,o,h=>h
 | (i,v)::l,aS,o,h=>by
  simp only[kC] at h ⊢
  cases hp:p i with
  | none=>rw[hp] at h;cases h
  | some x=>
   obtain⟨off,size⟩:=x;rw[hpq i (by rw[hp];rfl),hp];rw[hp] at h;simp only at h ⊢;obtain⟨hb,h⟩:=aF h;rw[hb,ar];exact wY hpq h
def Mk{t:TypeId}{parts:List (Nat×SV)}{ps:List (Nat×AV)}(hp:UK θ ρ parts ps){v:SV}(h:DD P t parts=some v):∃a,vL P t ps=some a/\VS θ ρ v a:=by
 unfold DD at h;unfold vL;obtain⟨z,hz,h⟩:=t8 h;obtain⟨q,hq,h⟩:=t8 h;rw[hz,m7];unfold Rf at hq;split at hq
 ·rename_i fs hu;obtain⟨hb,hq⟩:=aF hq;cases hq;simp only at h;obtain⟨o,ho,rfl⟩:=au h;obtain⟨w,hw,kw⟩:=ue hp (da.a z.cells) ho
  have hw:=wY (q:=wC P fs) (λi hi=>by
   cases hf:I9 P t i with
   | none=>rw[hf] at hi;cases hi
   | some q=>
    obtain⟨fs',fd,e1,_,e3,e4,e5,_⟩:=vU hf;rw[hu] at e1;cases e1;unfold wC
    rw[e3,m7,e4,m6,e5];rfl) hw
  rw[hu];simp only;rw[hb,ar,hw];exact⟨_,rfl,by rw[VS];exact⟨_,rfl,kw⟩⟩
 ·rename_i n e hu;obtain⟨s,hs,rfl⟩:=au hq;simp only at h;obtain⟨o,ho,rfl⟩:=au h;obtain⟨w,hw,kw⟩:=ue hp (da.a z.cells) ho;rw[hu];simp only;rw[hs,m7,hw];exact⟨_,rfl,by rw[VS];exact⟨_,rfl,kw⟩⟩
 ·cases hq
def yY{t:TypeId}{len:Nat}{parts:List (Nat×SV)}{ps:List (Nat×AV)}(hp:UK θ ρ parts ps){q:Nat×List SV}(h:nP P t len parts=some q):∃cs,ic P t len ps=some (q.1,cs)/\da θ ρ q.2 cs:=by
 unfold nP at h;unfold ic;obtain⟨el,hel,h⟩:=t8 h;obtain⟨z,hz,h⟩:=t8 h;obtain⟨⟨b1,b2,b3⟩,h⟩:=cf h;obtain⟨o,ho,rfl⟩:=au h;obtain⟨hu,hs⟩:=gG hel;obtain⟨w,hw,kw⟩:=ue hp (da.a (rep z.cells len)) ho
 have hb0:beq el.2 0=false:=by
  cases hb:beq el.2 0
  ·rfl
  ·exact ul (cW hb) b3
 rw[hu];simp only;rw[hs,m7,hz,m7,fj b1,b2,aa,hb0];simp only[aJ,ad,ar];rw[hw];exact⟨w,rfl,kw⟩
mutual
def jT:∀{v:SV} {x a:AV},VS θ ρ v x->cU v=some a->x=a
 | .a v,x,a,hv,h=>by rw[VS] at hv;rw[cU] at h;cases h;exact hv
 | .ag cs,x,a,hv,h=>by
  rw[VS] at hv;rw[cU] at h;obtain⟨aS,rfl,h2⟩:=hv;obtain⟨bs,hb,rfl⟩:=au h;rw[oQ h2 hb]
 | .any,_,_,_,h=>by simp[cU] at h
 | .sl _ _ _,_,_,_,h=>by simp[cU] at h
 | .im _ _,_,_,_,h=>by simp[cU] at h
 | .ip _,_,_,_,h=>by simp[cU] at h
 | .ptr _ _,_,_,_,h=>by simp[cU] at h
 | .map _,_,_,_,h=>by simp[cU] at h
 | .buf _ _ _ _,_,_,_,h=>by simp[cU] at h
 | .sub _ _ _ _ _,_,_,_,h=>by simp[cU] at h
 | .e0 _,_,_,_,h=>by simp[cU] at h
 | .cq _,_,_,_,h=>by simp[cU] at h
 | .fn _ _ _,_,_,_,h=>by simp[cU] at h
 | .iface t v,x,a,hv,h=>by
  rw[VS] at hv;rw[cU] at h;obtain⟨y,rfl,h2⟩:=hv;obtain⟨b,hb,rfl⟩:=au h;rw[jT h2 hb]
def oQ:∀{vs:List SV} {xs aS:List AV},da θ ρ vs xs->ji vs=some aS->xs=aS
 | [],xs,aS,hv,h=>by rw[bj] at hv;rw[ji] at h;cases h;exact hv
 | d::ds,xs,aS,hv,h=>by
  rw[aM] at hv;rw[ji] at h;obtain⟨a,r,rfl,h1,h2⟩:=hv;obtain⟨b,hb,h⟩:=t8 h;obtain⟨bs,hbs,rfl⟩:=au h;rw[jT h1 hb,oQ h2 hbs]
end
def ui{kt:TypeId}{k:AV}:∀(l:List (AV×AV×Nat)) (i:Nat),iq P kt k l i=uh P kt k (l.map (·.1)) i
 | [],_=>rfl
 | e::l,i=>by
  rw[am];unfold iq uh
  cases lT P 4 kt k e.1 with
  | none=>rfl
  | some b=>
   cases b
   ·exact ui l (i+1)
   ·rfl
def Ed{b:Bool}:∀{l:List SV} {x:SV} {xa:AV} {aS:List AV} {v:SV},VS θ ρ x xa->da θ ρ l aS->BH b x l=some v->∃a,nS b xa aS=some a/\VS θ ρ v a
 | [],x,xa,aS,v,hx,hl,h=>by
  rw[bj] at hl;subst hl
  have:v=x:=by
   cases x<;>simp only[BH,qr] at h<;>exact h.symm
  subst this;exact⟨xa,rfl,hx⟩
 | y::l,x,xa,aS,v,hx,hl,h=>by
  rw[aM] at hl;obtain⟨ya,r,rfl,h1,h2⟩:=hl
  cases x with
  | a x=>
   cases y with
   | a y=>
    rw[VS] at hx h1;subst hx;subst h1;simp only[BH] at h;obtain⟨z,hz,h⟩:=t8 h;obtain⟨w,hw,kw⟩:=Ed (x:=.a z) (xa:=z) (by rw[VS]) h2 h;exact⟨w,by simp only[nS,hz,m7];exact hw,kw⟩
   | _=>simp[BH] at h
  | _=>simp[BH] at h
end
section
variable {θ θ':Nat->Loc} {ρ ρ0:kG} {P:Program}
mutual
def VS.ids(hθ:∀p,(θ' p).id=(θ p).id):∀{v:SV} {x:AV},VS θ ρ v x->VS θ' ρ v x
 | .any,_,_=>by rw[VS];trivial
 | .a v,x,h=>by rw[VS] at h ⊢;exact h
 | .sl n e cs,x,h=>by rw[VS] at h ⊢;exact h
 | .im ks vs,x,h=>by rw[VS] at h ⊢;exact h
 | .ip cs,x,h=>by rw[VS] at h ⊢;exact h
 | .ptr p _,_,h=>by rw[VS] at h ⊢;rw[hθ p];exact h
 | .map p,_,h=>by rw[VS] at h ⊢;rw[hθ p];exact h
 | .buf p _ _ _,_,h=>by rw[VS] at h ⊢;rw[hθ p];exact h
 | .sub p _ _ _ _,_,h=>by rw[VS] at h ⊢;rw[hθ p];exact h
 | .e0 e,x,h=>by rw[VS] at h ⊢;exact h
 | .ag cs,x,h=>by rw[VS] at h ⊢;obtain⟨aS,h1,h2⟩:=h;exact⟨aS,h1,da.ids hθ h2⟩
 | .cq cs,x,h=>by rw[VS] at h ⊢;obtain⟨aS,h1,h2⟩:=h;exact⟨aS,h1,da.ids hθ h2⟩
 | .fn g f c,x,h=>by rw[VS] at h ⊢;obtain⟨xs,ys,h1,h2,h3⟩:=h;exact⟨xs,ys,h1,da.ids hθ h2,da.ids hθ h3⟩
 | .iface t v,x,h=>by rw[VS] at h ⊢;obtain⟨y,h1,h2⟩:=h;exact⟨y,h1,VS.ids hθ h2⟩
def da.ids(hθ:∀p,(θ' p).id=(θ p).id):∀{ds:List SV} {aS:List AV},da θ ρ ds aS->da θ' ρ ds aS
 | [],aS,h=>by rw[bj] at h ⊢;exact h
 | d::ds,aS,h=>by
  rw[aM] at h ⊢;obtain⟨a,r,h1,h2,h3⟩:=h;exact⟨a,r,h1,VS.ids hθ h2,da.ids hθ h3⟩
end
def jj{o:Nat}(hθ:∀p,p≠o->θ' p=θ p){v:SV}{x:AV}(h:VS θ ρ v x):VS θ' ρ (bf o v) x:=by
 unfold bf;cases hn:names o v
 ·exact h.vf hθ hn
 ·rw[ar,VS];trivial
def da.map{g:SV->SV}(hg:∀v x,VS θ ρ v x->VS θ' ρ (g v) x):∀{ds:List SV} {aS:List AV},da θ ρ ds aS->da θ' ρ (ds.map g) aS
 | [],aS,h=>by rw[bj] at h;rw[bk,bj];exact h
 | d::ds,aS,h=>by
  rw[aM] at h;rw[am,aM];obtain⟨a,r,h1,h2,h3⟩:=h;exact⟨a,r,h1,hg _ _ h2,da.map hg h3⟩
def iN(o:Nat):∀(f:Fm) (i:Nat),aP (eU o f) i=bf o (aP f i)
 | [],i=>rfl
 | (d,v)::f,i=>by
  show(if d=i then bf o v else aP (eU o f) i)=bf o (if d=i then v else aP f i);rw[iN o f i];by_cases h:d=i
  ·rw[un h,un h]
  ·rw[ut h,ut h]
def tj(g:SV->SV):SO->SO
 | .cells cs=>.cells (cs.map g)
 | .map ks vs b=>.map ks (vs.map g) b
 | .iter m bs c pos=>.iter (g m) bs c pos
 | .pI ks vs bs c pos=>.pI ks vs bs c pos
 | .gone=>.gone
 | .loop c ls p f=>.loop c ls p (f.map λq=>(q.1,g q.2))
 | .nd N=>.nd N
def Cl(g:SV->SV):∀(f:Fm) (i:Nat),aP (f.map λq=>(q.1,g q.2)) i=g (aP f i)\/aP (f.map λq=>(q.1,g q.2)) i=.any
 | [],i=>.inr rfl
 | (d,v)::f,i=>by
  show(if d=i then g v else aP (f.map λq=>(q.1,g q.2)) i)=g (if d=i then v else aP f i)\/(if d=i then g v else aP (f.map λq=>(q.1,g q.2)) i)=.any;by_cases h:d=i
  ·rw[un h,un h];exact .inl rfl
  ·rw[ut h,ut h];exact Cl g f i
def Pl(o:Nat):cI o=tj (bf o):=by funext so;cases so<;>rfl
def uA(so:SO):tj (λv=>v) so=so:=by cases so<;>simp[tj]
def CH{g:SV->SV}{so:SO}(h:tj g so≠.gone):so≠.gone:=by intro e;subst e;exact h rfl
def nH.map{g:SV->SV}(hg:∀v x,VS θ ρ v x->VS θ' ρ (g v) x){h h':H}{L:Loc}{so:SO}(hx:nH θ ρ h L so)(ho:h'.aU.get L.id=h.aU.get L.id)(hf:h'.dF.get L.bQ=h.dF.get L.bQ):nH θ' ρ h' L (tj g so):=by
 cases so with
 | cells cs=>obtain⟨aS,h1,h2,h3⟩:=hx;exact⟨aS,by rw[ho];exact h1,h2.map hg,by rw[hf];exact h3⟩
 | map ks vs b=>obtain⟨l,c,h1,h2,h3⟩:=hx;exact⟨l,c,by rw[ho];exact h1,h2,h3.map hg⟩
 | iter m bs c pos=>obtain⟨j9,h1,h2⟩:=hx;exact⟨j9,hg _ _ h1,by rw[ho];exact h2⟩
 | pI ks vs bs c pos=>obtain⟨j9,l,h1,h2,h3,h4⟩:=hx;exact⟨j9,l,h1,h2,h3,by rw[ho];exact h4⟩
 | gone=>trivial
 | loop c ls p f=>
  obtain⟨h1,h2,h3⟩:=hx;refine⟨h1,by rw[ho];exact h2,λi hi=>?_⟩
  rcases Cl g f i with e | e
  ·rw[e];exact hg _ _ (h3 i hi)
  ·rw[e,VS];trivial
 | nd N=>exact⟨hx.1,by rw[ho];exact hx.2⟩
def yO.symm{L M:Loc}(h:yO L M):yO M L:=⟨h.xx.symm,h.yx.symm,h.xy.symm,h.yy.symm,h.f.symm⟩
def FH.mono{b:En}{n m:Nat}{L:Loc}(h:FH b n L)(hn:n<=m):FH b m L:=⟨h.e,⟨h.x.1,by have:=h.x.2;omega⟩,⟨h.y.1,by have:=h.y.2;omega⟩,⟨h.f.1,by have:=h.f.2;omega⟩⟩
def gY(θ:Nat->Loc)(o:Nat)(L:Loc):Nat->Loc:=λp=>if p=o then L else θ p
def cA(θ:Nat->Loc)(o:Nat)(L:Loc):gY θ o L o=L:=un rfl
def bU(θ:Nat->Loc){o p:Nat}(L:Loc)(h:p≠o):gY θ o L p=θ p:=ut h
def RS.Br{h0:En}{h h':H}{S S':List SO}{o:Nat}{so':SO}{L':Loc}{g:SV->SV}(hR:RS θ ρ0 ρ h0 h S)(hnx:h.next<=h'.next)(hob0:∀j,h0.pr j->h'.aU.get j=h.aU.get j)(hfm0:∀j,h0.pf j->h'.dF.get j=h.dF.get j)(hlw:h0.lo<=h'.low)(hln:h'.low<=h'.next)(hL:FH h0 h'.next L')
 (hg:∀v x,VS θ ρ v x->VS (gY θ o L') ρ (g v) x)
 (hob:∀p so,p≠o->S[p]?=some so->so≠.gone->h'.aU.get (θ p).id=h.aU.get (θ p).id/\h'.dF.get (θ p).bQ=h.dF.get (θ p).bQ/\yO (θ p) L')
 (hrow:∀id ob,ρ id=some ob->h'.aU.get id=h.aU.get id/\id≠L'.x/\id≠L'.y)
 (hnew:nH (gY θ o L') ρ h' L' so') (hS:∀p,p≠o->S'[p]?=(S[p]?).map (tj g)) (hSo:S'[o]?=some so'):RS (gY θ o L') ρ0 ρ h0 h' S':=by
 have other:∀p so,p≠o->S'[p]?=some so->so≠.gone->∃s,S[p]?=some s/\s≠.gone/\so=tj g s:=by
  intro p so hp h1 h2;rw[hS p hp] at h1;obtain⟨s,hs,rfl⟩:=au h1;exact⟨s,hs,CH h2,rfl⟩
 refine⟨hR.ok,a8 hR.nx hnx,λj hj=>(hob0 j hj).trans (hR.ob j hj),λj hj=>(hfm0 j hj).trans (hR.fm j hj),hlw,hln,?_,?_,?_,hR.mP⟩
 ·intro p so h1 h2;by_cases hp:p=o
  ·subst hp;rw[hSo] at h1;cases h1;rw[cA];exact⟨hL,hnew⟩
  ·obtain⟨s,hs,hsg,rfl⟩:=other p so hp h1 h2;rw[bU _ _ hp];obtain⟨k1,k2⟩:=hR.obj p s hs hsg;obtain⟨q1,q2,_⟩:=hob p s hp hs hsg;exact⟨k1.mono hnx,k2.map hg q1 q2⟩
 ·intro p q so so' hpq h1 h2 h3 h4;by_cases hp:p=o
  ·subst hp;obtain⟨s,hs,hsg,rfl⟩:=other q so' (λe=>hpq e.symm) h3 h4;rw[cA,bU _ _ (λe=>hpq e.symm)];exact(hob q s (λe=>hpq e.symm) hs hsg).2.2.symm
  ·obtain⟨s,hs,hsg,rfl⟩:=other p so hp h1 h2;rw[bU _ _ hp];by_cases hq:q=o
   ·subst hq;rw[cA];exact(hob p s hp hs hsg).2.2
   ·obtain⟨s',hs',hsg',rfl⟩:=other q so' hq h3 h4;rw[bU _ _ hq];exact hR.sep p q s s' hpq hs hsg hs' hsg'
 ·intro id ob hi;obtain⟨k1,k2,k3⟩:=hR.row id ob hi;obtain⟨q1,q2,q3⟩:=hrow id ob hi;refine⟨aj k1 hnx,by rw[q1];exact k2,?_⟩;intro p so h1 h2;by_cases hp:p=o
  ·subst hp;rw[cA];exact⟨q2,q3⟩
  ·obtain⟨s,hs,hsg,rfl⟩:=other p so hp h1 h2;rw[bU _ _ hp];exact k3 p s hs hsg
def bx{α:Type}{l:List α}{i:Nat}{x:α}(h:l[i]?=some x):i<l.length:=(rg h).1
def rU(o:Nat)(S:List SO)(p:Nat):(eC o S)[p]?=(S[p]?).map (tj (bf o)):=by
 unfold eC;rw[Pl,a5]
def RS.new{h0:En}{h:H}{S:List SO}{so:SO}{ob:AO}(hR:RS θ ρ0 ρ h0 h S)(hob:(∃cs aS,so=.cells cs/\ob=.cells aS h.next/\da θ ρ cs aS)\/(so=.map [] [] none/\ob=.map [] 0)):
 RS (gY θ S.length ⟨h.next,h.next,h.next,h.next⟩) ρ0 ρ h0 { h.lay h.next ob with next:=h.next+1 } (gy S so)/\∀v x,VS θ ρ v x->VS (gY θ S.length ⟨h.next,h.next,h.next,h.next⟩) ρ (bf S.length v) x:=by
 have hg:∀v x,VS θ ρ v x->VS (gY θ S.length ⟨h.next,h.next,h.next,h.next⟩) ρ (bf S.length v) x:=λv x hv=>jj (λp hp=>bU _ _ hp) hv;refine⟨?_,hg⟩;have hb:=hR.nx;have hpr:∀j,h0.pr j->j<h.next:=λj hj=>aj (hR.ok.pr j hj) hb;have hpf:∀j,h0.pf j->j<h.next:=λj hj=>aj (hR.ok.pf j hj) hb
 have hobj:∀j,j<h.next->({ h.lay h.next ob with next:=h.next+1 }:H).aU.get j=h.aU.get j:=by
  intro j hj
  rcases hob with⟨cs,aS,_,rfl,_⟩ | ⟨_,rfl⟩<;>exact bq _ _ ii
 have hfam:∀j,j<h.next->({ h.lay h.next ob with next:=h.next+1 }:H).dF.get j=h.dF.get j:=by
  intro j hj
  rcases hob with⟨cs,aS,_,rfl,_⟩ | ⟨_,rfl⟩
  ·exact bq _ _ ii
  ·rfl
 have hlow:({ h.lay h.next ob with next:=h.next+1 }:H).low=h.low:=by
  rcases hob with⟨cs,aS,_,rfl,_⟩ | ⟨_,rfl⟩<;>rfl
 refine hR.Br (g:=bf S.length) (so':=cI S.length so) (by show h.next<=h.next+1;omega) (λj hj=>hobj j (hpr j hj)) (λj hj=>hfam j (hpf j hj)) (by rw[hlow];exact hR.lw) (by rw[hlow];exact cp hR.ln) ⟨.inl rfl,⟨λhj=>cd _ (hpr _ hj),bt _⟩,⟨λhj=>cd _ (hpr _ hj),bt _⟩,⟨λhj=>cd _ (hpf _ hj),bt _⟩⟩ hg ?_ ?_ ?_ ?_ ?_
 ·intro p s hp hs hsg;obtain⟨⟨k1,k2,k3,k4⟩,_⟩:=hR.obj p s hs hsg;refine⟨hobj _ (by rcases k1 with e | e<;>omega),hfam _ k4.2,⟨?_,?_,?_,?_,?_⟩⟩<;>(simp only;omega)
 ·intro id ob' hi;have:=(hR.row id ob' hi).1;exact⟨hobj id this,by simp only;omega,by simp only;omega⟩
 ·rcases hob with⟨cs,aS,rfl,rfl,hv⟩ | ⟨rfl,rfl⟩
  ·exact⟨aS,c7 _ _ _,hv.map hg,c7 _ _ _⟩
  ·exact⟨[],0,c7 _ _ _,⟨rfl,⟨List.nodup_nil,λe he=>by simp at he⟩,λp hp=>by cases hp⟩,by rw[bk,bk,bj]⟩
 ·intro p hp;unfold gy
  have hl:(eC S.length S).length=S.length:=by unfold eC;rw[aY]
  rw[cn];split
  ·exact rU _ _ _
  ·rename_i hlt;rw[hl] at hlt ⊢;have:S[p]?=none:=a6 ii;rw[this,a6 (by simp;omega)];rfl
 ·unfold gy
  have hl:(eC S.length S).length=S.length:=by unfold eC;rw[aY]
  rw[b6 ii,hl,Nat.sub_self];rfl
def pL{h:H}{id bQ x y:Nat}(hf:h.dF.get bQ=some (x,y)){j:Nat}(hj:j≠bQ):(h.alone id bQ).dF.get j=h.dF.get j:=by
 unfold H.alone;rw[hf];simp only;cases beq x id&&beq y id
 ·exact bq _ _ hj
 ·rfl
def nU{a b c:Nat}(h1:c<=a)(h2:c<=b):c<=iA a b:=by
 unfold iA;cases ble a b
 ·exact h2
 ·exact h1
def Cd{h:H}{id bQ x y b:Nat}(hf:h.dF.get bQ=some (x,y))(hx:b<=x)(hy:b<=y)(hb:b<=h.low)(hn:h.low<=h.next):b<=(h.alone id bQ).low/\(h.alone id bQ).low<=h.next:=by
 unfold H.alone;rw[hf];simp only;cases beq x id&&beq y id
 ·exact⟨nU hb (nU hx hy),a8 (dR _ _).1 hn⟩
 ·exact⟨hb,hn⟩
def RS.store{h0:En}{h:H}{S:List SO}{o:Nat}{cs vs:List SV}{off:Nat}{xs:List AV}(hR:RS θ ρ0 ρ h0 h S)(hS:S[o]?=some (.cells cs))(hv:da θ ρ vs xs)(hone:xs.all kq=true)(hle:off+vs.length<=cs.length):
 ∃h',h.store (θ o).id off xs=some h'/\RS (gY θ o ⟨(θ o).id,(θ o).bQ,(θ o).id,(θ o).id⟩) ρ0 ρ h0 h' (S.set o (.cells (cs.take off++(vs++cs.drop (off+vs.length)))))/\∀v x,VS θ ρ v x->VS (gY θ o ⟨(θ o).id,(θ o).bQ,(θ o).id,(θ o).id⟩) ρ v x:=by
 have hg:∀v x,VS θ ρ v x->VS (gY θ o ⟨(θ o).id,(θ o).bQ,(θ o).id,(θ o).id⟩) ρ v x:=λv x hv=>hv.ids λp=>by
  by_cases hp:p=o
  ·subst hp;rw[cA]
  ·rw[bU _ _ hp]
 obtain⟨⟨k1,k2,k3,k4⟩,aS,q1,q2,q3⟩:=hR.obj o _ hS ge;have a2:(h.alone (θ o).id (θ o).bQ).next=h.next:=(sS (Z:=0) (id:=(θ o).id) q3 (ba _) (ba _) (ba _)).2;have px:∀j,h0.pr j->j≠(θ o).x:=λj hj e=>k2.1 (e▸hj);have py:∀j,h0.pr j->j≠(θ o).y:=λj hj e=>k3.1 (e▸hj)
 have pi:∀j,h0.pr j->j≠(θ o).id:=λj hj=>by rcases k1 with e | e<;>rw[e];exact px j hj;exact py j hj
 have pfm:∀j,h0.pf j->j≠(θ o).bQ:=λj hj e=>k4.1 (e▸hj)
 have lid:h0.lo<=(θ o).id:=by rcases k1 with e | e<;>rw[e];exact hR.ok.lo _ k2.1;exact hR.ok.lo _ k3.1
 have hidn:(θ o).id<h.next:=by rcases k1 with e | e<;>rw[e];exact k2.2;exact k3.2
 have al:=Cd (id:=(θ o).id) q3 (hR.ok.lo _ k2.1) (hR.ok.lo _ k3.1) hR.lw hR.ln;have hl:=q2.length;have hlx:=hv.length;refine⟨{ h.alone (θ o).id (θ o).bQ with aU:=(h.alone (θ o).id (θ o).bQ).aU.put (θ o).id (some (.cells (aS.take off++(xs++aS.drop (off+xs.length))) (θ o).bQ)),low:=iA (h.alone (θ o).id (θ o).bQ).low (θ o).id },?_,?_,hg⟩
 ·unfold H.store;rw[q1];simp only;rw[fj (show off+xs.length<=aS.length by omega),hone];rfl
 ·refine hR.Br (g:=λv=>v) (so':=.cells (cs.take off++(vs++cs.drop (off+vs.length)))) (by show h.next<=(h.alone _ _).next;omega) (λj hj=>?_) (λj hj=>pL q3 (pfm j hj)) (nU al.1 lid) ?_ ⟨.inl rfl,⟨λhj=>pi _ hj rfl,?_⟩,⟨λhj=>pi _ hj rfl,?_⟩,⟨k4.1,?_⟩⟩ hg ?_ ?_ ?_ ?_ ?_
  ·show(Tr.put _ _ _).get j=_;rw[bq _ _ (pi j hj)];exact kH q3 (px j hj) (py j hj)
  ·show iA (h.alone _ _).low _<=(h.alone _ _).next;rw[a2];exact a8 (dR _ _).1 al.2
  ·show(θ o).id<(h.alone _ _).next;rw[a2];exact hidn
  ·show(θ o).id<(h.alone _ _).next;rw[a2];exact hidn
  ·show(θ o).bQ<(h.alone _ _).next;rw[a2];exact k4.2
  ·intro p s hp hs hsg;have sp:=hR.sep p o s _ hp hs hsg hS ge;obtain⟨⟨j1,j2,j3,j4⟩,_⟩:=hR.obj p s hs hsg
   have e1:(θ p).id≠(θ o).x:=by rcases j1 with e | e<;>rw[e];exact sp.xx;exact sp.yx
   have e2:(θ p).id≠(θ o).y:=by rcases j1 with e | e<;>rw[e];exact sp.xy;exact sp.yy
   refine⟨?_,pL q3 sp.f,⟨?_,?_,?_,?_,sp.f⟩⟩
   ·show(Tr.put _ _ _).get _=_;rw[bq _ _ (by rcases k1 with e | e<;>rw[e]<;>assumption)];exact kH q3 e1 e2
   ·simp only;rcases k1 with e | e<;>rw[e];exact sp.xx;exact sp.xy
   ·simp only;rcases k1 with e | e<;>rw[e];exact sp.xx;exact sp.xy
   ·simp only;rcases k1 with e | e<;>rw[e];exact sp.yx;exact sp.yy
   ·simp only;rcases k1 with e | e<;>rw[e];exact sp.yx;exact sp.yy
  ·intro id ob hi;obtain⟨_,_,r3⟩:=hR.row id ob hi;obtain⟨e1,e2⟩:=r3 o _ hS ge
   have e3:id≠(θ o).id:=by rcases k1 with e | e<;>rw[e]<;>assumption
   refine⟨?_,e3,e3⟩;show(Tr.put _ _ _).get _=_;rw[bq _ _ e3];exact kH q3 e1 e2
  ·refine⟨_,c7 _ _ _,?_,Cc q3⟩
   have hw:da θ ρ (cs.take off++(vs++cs.drop (off+vs.length))) (aS.take off++(xs++aS.drop (off+xs.length))):=by
    rw[hlx];exact(q2.take off).app (hv.app (q2.drop (off+vs.length)))
   have:=hw.map hg;rw[List.map_id'] at this;exact this
  ·intro p hp;rw[a0 (λe=>hp e.symm)]
   cases S[p]? with
   | none=>rfl
   | some s=>rw[m6,uA]
  ·rw[ay (bx hS)]
def RS.T8{h0:En}{h:H}{S:List SO}{o:Nat}{ks ks':List AV}{vs vs':List SV}{l':List (AV×AV×Nat)}{c':Nat}{b b':Option (List Nat×Nat)}(hR:RS θ ρ0 ρ h0 h S)(hS:S[o]?=some (.map ks vs b))(h1:Q3 l' c' ks' b')(h2:da θ ρ vs' (l'.map (·.2.1))):
 RS θ ρ0 ρ h0 (h.set (θ o).id (.map l' c')) (S.set o (.map ks' vs' b')):=by
 obtain⟨⟨k1,k2,k3,k4⟩,l,c,q1,q2,q3⟩:=hR.obj o _ hS ge
 have heq:gY θ o (θ o)=θ:=by
  funext p;unfold gY;split
  ·rename_i e;rw[e]
  ·rfl
 have hg:∀v x,VS θ ρ v x->VS (gY θ o (θ o)) ρ v x:=λv x hv=>by rw[heq];exact hv
 have pi:∀j,h0.pr j->j≠(θ o).id:=λj hj e=>by rcases k1 with e' | e'<;>rw[e'] at e;exact k2.1 (e▸hj);exact k3.1 (e▸hj)
 have lid:h0.lo<=(θ o).id:=by rcases k1 with e | e<;>rw[e];exact hR.ok.lo _ k2.1;exact hR.ok.lo _ k3.1
 have:=hR.Br (g:=λv=>v) (h':=h.set (θ o).id (.map l' c')) (S':=S.set o (.map ks' vs' b')) (so':=.map ks' vs' b') (L':=θ o) (b7 _) (λj hj=>bq _ _ (pi j hj)) (λj hj=>rfl) (nU hR.lw lid) (a8 (dR _ _).1 hR.ln) ⟨k1,k2,k3,k4⟩ hg ?_ ?_ ?_ ?_ ?_
 ·rw[heq] at this;exact this
 ·intro p s hp hs hsg;have sp:=hR.sep p o s _ hp hs hsg hS ge;obtain⟨⟨j1,j2,j3,j4⟩,_⟩:=hR.obj p s hs hsg;refine⟨bq _ _ ?_,rfl,sp⟩
  rcases j1 with e | e<;>rcases k1 with e' | e'<;>rw[e,e']
  ·exact sp.xx
  ·exact sp.xy
  ·exact sp.yx
  ·exact sp.yy
 ·intro id ob hi;obtain⟨_,_,r3⟩:=hR.row id ob hi;obtain⟨e1,e2⟩:=r3 o _ hS ge;exact⟨bq _ _ (by rcases k1 with e | e<;>rw[e]<;>assumption),e1,e2⟩
 ·rw[heq];exact⟨l',c',c7 _ _ _,h1,h2⟩
 ·intro p hp;rw[a0 (λe=>hp e.symm)]
  cases S[p]? with
  | none=>rfl
  | some s=>rw[m6,uA]
 ·rw[ay (bx hS)]
def RS.fork{h0:En}{h:H}{S:List SO}{o n:Nat}{cs vs:List SV}{xs aS:List AV}(hR:RS θ ρ0 ρ h0 h S)(hS:S[o]?=some (.cells cs))(hv:da θ ρ vs xs)(has:h.aU.get (θ o).id=some (.cells aS (θ o).bQ))(hle:n<=cs.length):
 (h.alone (θ o).id (θ o).bQ).next=h.next/\RS (gY θ o ⟨h.next,(θ o).bQ,(θ o).id,h.next⟩) ρ0 ρ h0 (h.eE (θ o).id (θ o).bQ (aS.take n) ((aS.drop 0).take n++xs)) ((eC o S).set o (cI o (.cells (cs.take n++vs))))/\∀v x,VS θ ρ v x->VS (gY θ o ⟨h.next,(θ o).bQ,(θ o).id,h.next⟩) ρ (bf o v) x:=by
 have hg:∀v x,VS θ ρ v x->VS (gY θ o ⟨h.next,(θ o).bQ,(θ o).id,h.next⟩) ρ (bf o v) x:=λv x hv=>jj (λp hp=>bU _ _ hp) hv;obtain⟨⟨k1,k2,k3,k4⟩,as',q1,q2,q3⟩:=hR.obj o _ hS ge;rw[has] at q1;cases q1;have a2:(h.alone (θ o).id (θ o).bQ).next=h.next:=(sS (Z:=0) (id:=(θ o).id) q3 (ba _) (ba _) (ba _)).2;have px:∀j,h0.pr j->j≠(θ o).x:=λj hj e=>k2.1 (e▸hj);have py:∀j,h0.pr j->j≠(θ o).y:=λj hj e=>k3.1 (e▸hj)
 have pi:∀j,h0.pr j->j≠(θ o).id:=λj hj=>by rcases k1 with e | e<;>rw[e];exact px j hj;exact py j hj
 have pfm:∀j,h0.pf j->j≠(θ o).bQ:=λj hj e=>k4.1 (e▸hj)
 have lid:h0.lo<=(θ o).id:=by rcases k1 with e | e<;>rw[e];exact hR.ok.lo _ k2.1;exact hR.ok.lo _ k3.1
 have hidn:(θ o).id<h.next:=by rcases k1 with e | e<;>rw[e];exact k2.2;exact k3.2
 have al:=Cd (id:=(θ o).id) q3 (hR.ok.lo _ k2.1) (hR.ok.lo _ k3.1) hR.lw hR.ln;have hid:(θ o).id<h.next:=hidn;have hb:=hR.nx;have hprn:∀j,h0.pr j->j<h.next:=λj hj=>aj (hR.ok.pr j hj) hb;refine⟨a2,?_,hg⟩;refine hR.Br (g:=bf o) (so':=cI o (.cells (cs.take n++vs))) (by show h.next<=(h.alone _ _).next+1;omega) (λj hj=>?_) (λj hj=>?_) ?_ ?_ ⟨.inr rfl,⟨λhj=>pi _ hj rfl,?_⟩,⟨λhj=>cd _ (hprn _ hj),?_⟩,⟨k4.1,?_⟩⟩ hg ?_ ?_ ?_ ?_ ?_
 ·simp only[H.eE];rw[a2,bq _ _ (by have:=hprn j hj;omega),bq _ _ (pi j hj)];exact kH q3 (px j hj) (py j hj)
 ·simp only[H.eE];rw[bq _ _ (pfm j hj)];exact pL q3 (pfm j hj)
 ·simp only[H.eE];exact nU al.1 lid
 ·simp only[H.eE];rw[a2];exact cp (a8 (dR _ _).1 al.2)
 ·simp only[H.eE,a2];omega
 ·simp only[H.eE,a2];omega
 ·simp only[H.eE,a2];have:=k4.2;omega
 ·intro p s hp hs hsg;have sp:=hR.sep p o s _ hp hs hsg hS ge;obtain⟨⟨j1,j2,j3,j4⟩,_⟩:=hR.obj p s hs hsg
  have e1:(θ p).id≠(θ o).x:=by rcases j1 with e | e<;>rw[e];exact sp.xx;exact sp.yx
  have e2:(θ p).id≠(θ o).y:=by rcases j1 with e | e<;>rw[e];exact sp.xy;exact sp.yy
  have e3:(θ p).id<h.next:=by rcases j1 with e | e<;>omega
  refine⟨?_,?_,⟨?_,?_,?_,?_,sp.f⟩⟩
  ·simp only[H.eE];rw[a2,bq _ _ ii,bq _ _ (by rcases k1 with e | e<;>rw[e]<;>assumption)];exact kH q3 e1 e2
  ·simp only[H.eE];rw[bq _ _ sp.f];exact pL q3 sp.f
  ·simp only;rcases k1 with e | e<;>rw[e];exact sp.xx;exact sp.xy
  ·simp only;omega
  ·simp only;rcases k1 with e | e<;>rw[e];exact sp.yx;exact sp.yy
  ·simp only;omega
 ·intro id ob hi;obtain⟨r1,_,r3⟩:=hR.row id ob hi;obtain⟨e1,e2⟩:=r3 o _ hS ge
  have e3:id≠(θ o).id:=by rcases k1 with e | e<;>rw[e]<;>assumption
  refine⟨?_,e3,by simp only;omega⟩;simp only[H.eE];rw[a2,bq _ _ ii,bq _ _ e3];exact kH q3 e1 e2
 ·refine⟨_,?_,((q2.take n).app hv).map hg,?_⟩
  ·simp only[H.eE];rw[a2,c7,bH]
  ·simp only[H.eE];rw[c7,a2]
 ·intro p hp;rw[a0 (λe=>hp e.symm)];exact rU _ _ _
 ·rw[ay (by unfold eC;rw[aY];exact bx hS)]
end
section
variable {θ θ':Nat->Loc} {ρ ρ0:kG} {P:Program}
def Hw{h0:En}{h:H}{S:List SO}(hR:RS θ ρ0 ρ h0 h S){id:Nat}{row:List AV}(hr:wI ρ id=some row):sw h.aU id=some row:=by
 unfold wI at hr
 cases ho:ρ id with
 | none=>rw[ho] at hr;cases hr
 | some ob=>
  have:=(hR.row id ob ho).2.1;rw[ho] at hr;unfold sw;rw[this]
  cases ob<;>first | exact hr | (cases hr;done)
def GO{h0:En}{h:H}{S:List SO}(hR:RS θ ρ0 ρ h0 h S){tt:TypeId}{a:SV}{x:AV}(ha:VS θ ρ a x){v:SV}(hl:Av P S tt a=some v):∃y,D6 P h tt (some x)=some y/\VS θ ρ v y:=by
 unfold Av at hl;split at hl
 ·rename_i o off;rw[VS] at ha;subst ha;split at hl
  ·rename_i cs hS;obtain⟨_,aS,q1,q2,_⟩:=hR.obj o _ hS ge;obtain⟨y,k1,k2⟩:=uI q2 hl;exact⟨y,by rw[CF,CE (aS:=aS) (by unfold sw;rw[q1];rfl)];exact k1,k2⟩
  ·cases hl
 ·rename_i cs;rw[VS,GS] at ha;obtain⟨id,off,row,r,rfl,h2,h3,h4⟩:=ha;obtain⟨y,k1,k2⟩:=uI (h4.vs (θ:=θ)) hl;refine⟨y,?_,k2⟩;rw[CF,CE (Hw hR h2)];have:=Ng h3 k1;rw[Nat.add_zero] at this;exact this
 ·cases hl
def Ns{h0:En}{h:H}{S S':List SO}(hR:RS θ ρ0 ρ h0 h S){tt:TypeId}{a v:SV}{x y:AV}(ha:VS θ ρ a x)(hv:VS θ ρ v y)(hs:EF P S tt a v=some S'):
 ∃h' θ',EE P h tt (some x) (some y)=some h'/\RS θ' ρ0 ρ h0 h' S'/\∀v x,VS θ ρ v x->VS θ' ρ v x:=by
 unfold EF at hs;split at hs
 ·rename_i o off;rw[VS] at ha;subst ha;split at hs
  ·rename_i cs hS;obtain⟨⟨n,_⟩,hq,hs⟩:=t8 hs;obtain⟨vs,hvs,hs⟩:=t8 hs;obtain⟨⟨b1,b2,b3⟩,hs⟩:=cf hs;cases hs;have hn:=(vx hq).2;simp only at b1 b2 hn;have kv:=vM hv hvs;subst b1;obtain⟨h',e1,e2,e3⟩:=hR.store hS kv (mH kv b3) b2;refine⟨h',_,?_,e2,e3⟩;rw[JP];unfold H.storeVar;rw[hn,m7,kv.length,aa,ar];exact e1
  ·cases hs
 ·cases hs
def Sm{P:Program}{t:Tr AV}{h:H}{nm:String}{first cap:Array Operand}:eH P t h (.makeFunc (.method nm) first cap)=((Bz t first.toList).bind λa=>(Bz t cap.toList).map λb=>AV.fn (.method nm) a b).map λv=>[(some v,h)]:=rfl
def RW{v w:SV}{x:AV}(hv:VS θ ρ v x)(h:bF P v=some w):pj P x=some x/\w=v:=by
 cases v with
 | ptr o off=>simp only[bF,qr] at h;rw[VS] at hv;subst hv;exact⟨rfl,h.symm⟩
 | ip cs=>simp only[bF,qr] at h;rw[VS,GS] at hv;obtain⟨id,off,row,r,rfl,_⟩:=hv;exact⟨rfl,h.symm⟩
 | fn g a b=>simp only[bF,qr] at h;rw[VS] at hv;obtain⟨xs,ys,rfl,_⟩:=hv;exact⟨rfl,h.symm⟩
 | sl n e cs=>simp only[bF,qr] at h;rw[VS,GS] at hv;rcases hv with⟨_,_,o,e',c,rfl,_,_⟩ | ⟨id,off,cap,row,rfl,_⟩<;>exact⟨rfl,h.symm⟩
 | buf o n e c=>simp only[bF,qr] at h;rw[VS] at hv;subst hv;exact⟨rfl,h.symm⟩
 | sub o off n e c=>simp only[bF,qr] at h;rw[VS] at hv;subst hv;exact⟨rfl,h.symm⟩
 | e0 e=>simp only[bF,qr] at h;rw[VS] at hv;obtain⟨o,e',rfl,_⟩:=hv;exact⟨rfl,h.symm⟩
 | a u=>
  unfold bF at h;split at h
  case h_8 hu=>
   cases hu;obtain⟨g,hg,rfl⟩:=au h;rw[VS] at hv;subst hv;refine⟨?_,rfl⟩;unfold pj;simp only[hg,m6]
  all_goals first | (cases h;done) | (rename_i hu;cases hu;done)
 | _=>simp[bF] at h
def Mh{a b:Nat}(h:a<b):Nat.blt a b=true:=by rw[Nat.blt_eq];exact h
def Ln{cs:List SV}{x:AV}{k:Nat}(hv:GS ρ (.ip cs) x)(hk:k<=cs.length):∃id off row,x=.ptr (some (id,off))/\wI ρ id=some row/\GS ρ (.ip (cs.drop k)) (.ptr (some (id,off+k))):=by
 rw[GS] at hv;obtain⟨id,off,row,r,rfl,h2,h3,h4⟩:=hv;refine⟨id,off,row,rfl,h2,?_⟩;have hl:=h4.length;rw[ch,bc] at hl;rw[GS];refine⟨id,off+k,row,r-k,rfl,h2,by omega,?_⟩;have:=h4.drop k;rw[cb,a3] at this;exact this
def BA{s:TypeId}{v w:SV}{x:AV}{fl:Nat}(hv:VS θ ρ v x)(h:pV P s v fl=some w):∃y,jz P s x fl=some y/\VS θ ρ w y:=by
 unfold pV at h;obtain⟨q,hq,h⟩:=t8 h;obtain⟨hn0,h⟩:=cf h;obtain⟨fs,fd,hu,_,hfd,hn,e1,_⟩:=vU hq
 have hb:beq q.2.2 0=false:=by
  cases hb:beq q.2.2 0
  ·rfl
  ·exact ul (cW hb) hn0
 cases v with
 | ptr o off=>
  simp only at h;cases h;rw[VS] at hv;subst hv;unfold jz;rw[hu];simp only;rw[hfd,m7,hn,m7,hb,aw,e1];exact⟨_,rfl,by rw[VS]⟩
 | ip cs=>
  simp only at h;obtain⟨hk,h⟩:=cf h;cases h;rw[VS] at hv;obtain⟨id,off,row,rfl,_,h2⟩:=Ln hv hk;unfold jz;rw[hu];simp only;rw[hfd,m7,hn,m7,hb,aw,e1];exact⟨_,rfl,by rw[VS];exact h2⟩
 | _=>simp at h
def MK{s:TypeId}{v w:SV}{x:AV}{fl:Nat}(hv:VS θ ρ v x)(h:zy P s v fl=some w):∃y,vR P s x fl=some y/\VS θ ρ w y:=by
 cases v with
 | ag cs=>
  simp only[zy] at h;rw[VS] at hv;obtain⟨aS,rfl,hv⟩:=hv;obtain⟨q,hq,h⟩:=t8 h;obtain⟨fs,fd,hu,_,hfd,hn,e1,e2⟩:=vU hq;obtain⟨y,k1,k2⟩:=uI hv h;unfold vR;rw[hu];simp only;rw[hfd,m7,e1,e2];exact⟨y,k1,k2⟩
 | _=>simp[zy] at h
def Ef{v:SV}{x:AV}{i:Nat}(hv:VS θ ρ v x)(h:Jt v=some i):dh x=some i:=by
 cases v with
 | a v=>rw[VS] at hv;subst hv;exact h
 | _=>simp[Jt] at h
def BC{t:TypeId}{v w iv:SV}{x ix:AV}(hv:VS θ ρ v x)(hi:VS θ ρ iv ix)(h:qc P t v iv=some w):∃y,kP P t x ix=some y/\VS θ ρ w y:=by
 unfold qc at h;obtain⟨i,hin,h2⟩:=t8 h;clear h;unfold kP;rw[Ef hi hin,m7]
 cases har:S5 P t with
 | some q=>
  rw[har] at h2;simp only at h2;obtain⟨hu,hs⟩:=FO har;obtain⟨hlt,h⟩:=cf h2;rw[hu];have hlb:blt i q.1=true:=Mh hlt
  cases v with
  | ptr o off=>
   simp only at h;cases h;rw[VS] at hv;subst hv;simp only;rw[hs,m7,hlb,ar];exact⟨_,rfl,by rw[VS]⟩
  | ip cs=>
   simp only at h;obtain⟨hk,h⟩:=cf h;cases h;rw[VS] at hv;obtain⟨id,off,row,rfl,_,h2⟩:=Ln hv hk;simp only;rw[hs,m7,hlb,ar];exact⟨_,rfl,by rw[VS];exact h2⟩
  | _=>simp at h
 | none=>
  rw[har] at h2;simp only at h2;obtain⟨q,hq,h⟩:=t8 h2;obtain⟨hu,hs⟩:=gG hq;obtain⟨e,s⟩:=q;simp only at hu hs h;rw[hu]
  cases v with
  | sl n es cs=>
   simp only at h;obtain⟨⟨hlt,hse⟩,h⟩:=cf h;cases h;subst hse;have hlb:blt i n=true:=Mh hlt;rw[VS,GS] at hv
   rcases hv with⟨h1,_⟩ | ⟨id,off,cap,row,rfl,h2,h3,h4⟩
   ·omega
   ·simp only;rw[hs,m7,hlb,aa,ad,ar];refine⟨_,rfl,?_⟩
    have hms:i*s+s<=n*s:=by
     have:=a7 s (show i+1<=n by omega);rw[d3] at this;exact this
    rw[VS,GS];refine⟨id,off+i*s,row,s,rfl,h2,by omega,?_⟩;have:=(h4.drop (i*s)).take s;rw[cb,a3,cc,bd ii] at this;exact this
  | buf o n es c=>
   simp only at h;obtain⟨⟨hlt,hse⟩,h⟩:=cf h;cases h;subst hse;have hlb:blt i n=true:=Mh hlt;rw[VS] at hv;subst hv;simp only;rw[hs,m7,hlb,aa,ad,ar];exact⟨_,rfl,by rw[VS,a9]⟩
  | sub o off n es c=>
   simp only at h;obtain⟨⟨hlt,hse⟩,h⟩:=cf h;cases h;subst hse;have hlb:blt i n=true:=Mh hlt;rw[VS] at hv;subst hv;simp only;rw[hs,m7,hlb,aa,ad,ar];exact⟨_,rfl,by rw[VS]⟩
  | _=>simp at h
def MO{t:TypeId}{v w iv:SV}{x ix:AV}(hv:VS θ ρ v x)(hi:VS θ ρ iv ix)(h:D0 P t v iv=some w):∃y,vX P t x ix=some y/\VS θ ρ w y:=by
 unfold D0 at h;obtain⟨i,hin,h2⟩:=t8 h;clear h;unfold vX;rw[Ef hi hin,m7]
 cases v with
 | ag cs=>
  simp only at h2;obtain⟨q,hq,h⟩:=t8 h2;obtain⟨hu,hs⟩:=FO hq;obtain⟨hlt,h⟩:=cf h;rw[hu];rw[VS] at hv;obtain⟨aS,rfl,hv⟩:=hv;simp only;rw[hs,m7,Mh hlt,ar];exact uI hv h
 | a v=>
  cases v with
  | str s=>
   simp only at h2
   cases hk:jk P t with
   | str=>
    rw[hk] at h2;simp only at h2;rw[As hk];rw[VS] at hv;subst hv;simp only;obtain⟨b,hb,rfl⟩:=au h2;rw[hb];exact⟨_,rfl,by rw[VS]⟩
   | _=>rw[hk] at h2;cases h2
  | _=>simp at h2
 | _=>simp at h2
def Nq{h:H}{t:TypeId}{v w:SV}{x:AV}{lo hi mx:Option AV}(hv:VS θ ρ v x)(h1:nA P t v lo hi mx=some w):∃y,wJ P h t x lo hi mx=some y/\VS θ ρ w y:=by
 unfold nA at h1;unfold wJ;split at h1
 ·rename_i s hk;rw[As hk];rw[VS] at hv;subst hv
  cases mx with
  | some _=>cases h1
  | none=>
   simp only at h1 ⊢;obtain⟨b,hb,rfl⟩:=au h1;rw[hb];exact⟨_,rfl,by rw[VS]⟩
 ·rename_i n es cs hk
  cases mx with
  | some m=>
   simp only at h1;obtain⟨⟨e,s⟩,hq,h1⟩:=t8 h1;obtain⟨hu,hs⟩:=gG hq;simp only at hu hs h1;rw[hu];obtain⟨⟨rfl,h2,h3,h4⟩,h5⟩:=cf h1;cases h5;subst h4;obtain⟨hv0,rfl,h2⟩:=t8 h2
   have hb:∀cap,cO n cap none (some hv0) (some m)=some (0,0,some 0):=by
    intro cap;unfold cO;simp only;have h2':dh hv0=some 0:=h2
    have hf:qD n cap 0=true:=by unfold qD;rw[fj (ba n)];rfl
    rw[h3,m7,hf,ar,h2'];rfl
   rw[VS,GS] at hv
   rcases hv with⟨rfl,rfl,o,e',c,rfl,ho,hoe⟩ | ⟨id,off,cap,row,rfl,h6,h7,h8⟩
   ·simp only;rw[hs,m7,hb,m7];simp only
    cases o with
    | none=>exact⟨_,rfl,by rw[VS];exact⟨none,0,rfl,λh=>ul rfl h⟩⟩
    | some q=>
     obtain⟨id,off⟩:=q;rw[hoe gc];simp only;rw[aa,ar];exact⟨_,rfl,by rw[VS];exact⟨_,_,rfl,λ_=>rfl⟩⟩
   ·simp only;rw[hs,m7,hb,m7];simp only;rw[aa,ar];exact⟨_,rfl,by rw[VS];exact⟨_,_,rfl,λ_=>rfl⟩⟩
  | none=>
   simp only at h1;obtain⟨⟨e,s⟩,hq,h1⟩:=t8 h1;obtain⟨hu,hs⟩:=gG hq;simp only at hu hs;rw[hu];obtain⟨⟨l,hh,m⟩,hb,h1⟩:=t8 h1;obtain⟨hse,h1⟩:=cf h1;cases h1;simp only at hse;subst hse
   have hbd:∀cap,(cO n cap lo hi none=some (l,hh,cap))/\l<=hh/\hh<=n:=by
    intro cap;unfold cO at hb ⊢;simp only at hb ⊢;obtain⟨q,hq,hb⟩:=t8 hb
    have hq2:oU n cap hi=some q/\q<=n:=by
     cases hi with
     | none=>simp only[oU,qr] at hq ⊢;exact⟨hq,by omega⟩
     | some hv=>
      simp only[oU] at hq ⊢;obtain⟨k,hk,hq⟩:=t8 hq;obtain⟨hf,hq⟩:=aF hq;cases hq;simp only[qD,d0] at hf;rw[hk,m7];unfold qD;rw[hf,co,ar];exact⟨rfl,jy hf⟩
    rw[hq2.1,m7]
    cases lo with
    | none=>simp only[qr,m8] at hb ⊢;obtain⟨rfl,rfl,_⟩:=hb;exact⟨by simp,ba _,hq2.2⟩
    | some lv=>
     simp only at hb ⊢;obtain⟨k,hk,hb⟩:=t8 hb;obtain⟨hf,hb⟩:=aF hb;simp only[qr,m8] at hb;obtain⟨rfl,rfl,_⟩:=hb;rw[hk,m7,hf,ar];exact⟨by simp,jy hf,hq2.2⟩
   rw[VS,GS] at hv
   rcases hv with⟨rfl,rfl,o,e',c,rfl,ho,hoe⟩ | ⟨id,off,cap,row,rfl,h2,h3,h4⟩
   ·obtain⟨b1,b2,b3⟩:=hbd c
    have hl0:l=0:=by omega
    have hh0:hh=0:=by omega
    subst hl0;subst hh0;simp only;rw[hs,m7,b1,m7];simp only
    cases o with
    | none=>
     exact⟨_,rfl,by rw[VS,GS];exact .inl ⟨rfl,by simp,none,0,some 0,rfl,λ_=>rfl,λh=>ul rfl h⟩⟩
    | some q=>
     obtain⟨id,off⟩:=q;rw[hoe gc];simp only;rw[aa,ar];exact⟨_,rfl,by rw[VS,GS];exact .inl ⟨rfl,by simp,_,_,_,rfl,λh=>(by cases h),λ_=>rfl⟩⟩
   ·obtain⟨b1,b2,b3⟩:=hbd cap;simp only;rw[hs,m7,b1,m7];simp only;rw[aa,ar];refine⟨_,rfl,?_⟩;rw[VS,GS];have m1:l*s<=hh*s:=a7 s b2;have m2:hh*s<=n*s:=a7 s b3;refine .inr ⟨id,off+l*s,bP cap l,row,rfl,h2,by rw[Nat.sub_mul];omega,?_⟩;have:=(h4.drop (l*s)).take ((hh-l)*s);rw[cb,a3,cc,bd (by rw[Nat.sub_mul];omega)] at this;exact this
 ·rename_i o n es c hk
  cases mx with
  | some _=>cases h1
  | none=>
   simp only at h1;obtain⟨⟨e,s⟩,hq,h1⟩:=t8 h1;obtain⟨hu,hs⟩:=gG hq;simp only at hu hs;rw[hu];obtain⟨⟨l,hh,m⟩,hb,h1⟩:=t8 h1;obtain⟨hse,h1⟩:=cf h1;cases h1;simp only at hse;subst hse;rw[VS] at hv;subst hv;simp only;rw[hs,m7,hb,m7];simp only;rw[aa,ar]
   cases lo with
   | none=>
    have hl0:l=0:=by
     unfold cO at hb;simp only at hb;obtain⟨q,hq,hb⟩:=t8 hb;simp only[qr,m8] at hb;exact hb.1.symm
    subst hl0;exact⟨_,rfl,by rw[VS,bv]⟩
   | some _=>exact⟨_,rfl,by rw[VS,a9]⟩
 ·rename_i o off n es c hk
  cases mx with
  | some _=>cases h1
  | none=>
   simp only at h1;obtain⟨⟨e,s⟩,hq,h1⟩:=t8 h1;obtain⟨hu,hs⟩:=gG hq;simp only at hu hs;rw[hu];obtain⟨⟨l,hh,m⟩,hb,h1⟩:=t8 h1;obtain⟨hse,h1⟩:=cf h1;cases h1;simp only at hse;subst hse;rw[VS] at hv;subst hv;simp only;rw[hs,m7,hb,m7];simp only;rw[aa,ar];exact⟨_,rfl,by rw[VS]⟩
 ·rename_i hk;obtain⟨⟨e,s⟩,hq,h1⟩:=t8 h1;obtain⟨hu,hs⟩:=gG hq;simp only at hu hs;rw[hu];obtain⟨⟨l,hh,m⟩,hb,rfl⟩:=au h1;rw[VS] at hv;subst hv;simp only;rw[hs,m7,hb,m7];exact⟨_,rfl,by rw[VS]⟩
 ·rename_i e0 hk;obtain⟨⟨e,s⟩,hq,h1⟩:=t8 h1;obtain⟨hu,hs⟩:=gG hq;simp only at hu hs;rw[hu];obtain⟨⟨l,hh,m⟩,hb,h1⟩:=t8 h1;obtain⟨⟨hl0,hh0,hm0,hse⟩,h5⟩:=cf h1;clear h1;cases h5;simp only at hse;subst hl0;subst hh0;subst hm0;subst hse;rw[VS] at hv;obtain⟨o,e',rfl,hoe⟩:=hv;simp only;rw[hs,m7,hb,m7];simp only
  cases o with
  | none=>exact⟨_,rfl,by rw[VS];exact⟨none,0,rfl,λh=>ul rfl h⟩⟩
  | some q=>
   obtain⟨id,off⟩:=q;rw[hoe gc];simp only;rw[aa,ar];exact⟨_,rfl,by rw[VS];exact⟨_,_,rfl,λ_=>rfl⟩⟩
 ·cases h1
end
section
variable {θ θ':Nat->Loc} {ρ ρ0:kG} {P:Program}
def K4{h0:En}{h:H}{S:List SO}(hR:RS θ ρ0 ρ h0 h S){v:SV}{x:AV}(hv:VS θ ρ v x){e:List AV×List SV}(he:By S v=some e):
 (x=.map none/\e=([],[]))\/∃id l c,x=.map (some id)/\h.mapOf id=some (l,c)/\l.map (·.1)=e.1/\da θ ρ e.2 (l.map (·.2.1)):=by
 unfold By at he;split at he
 ·rename_i o;rw[VS] at hv;subst hv;split at he
  ·rename_i ks vs b hS;cases he;obtain⟨_,l,c,q1,⟨q2,_⟩,q3⟩:=hR.obj o _ hS ge;exact .inr ⟨_,l,c,rfl,by unfold H.mapOf;rw[q1],q2,q3⟩
  ·cases he
 ·cases he;rw[VS,GS] at hv;obtain⟨id,l,c,rfl,h2,h3,h4⟩:=hv;exact .inr ⟨id,l,c,rfl,by unfold H.mapOf;rw[(hR.row id _ h2).2.1],h3.1,h4.vs⟩
 ·cases he;rw[VS] at hv;subst hv;exact .inl ⟨rfl,rfl⟩
 ·cases he
def Jl{h0:En}{h:H}{S:List SO}(hR:RS θ ρ0 ρ h0 h S){t:TypeId}{v k w:SV}{x y:AV}{ok:Bool}(hv:VS θ ρ v x)(hk:VS θ ρ k y)(hl:jv P S t v k ok=some w):∃z,rX P h t x y ok=some z/\VS θ ρ w z:=by
 unfold jv at hl;obtain⟨⟨kt,et⟩,hm,hl⟩:=t8 hl;obtain⟨ka,hka,hl⟩:=t8 hl;have:=jT hk hka;subst this;obtain⟨hkey,hl⟩:=aF hl;obtain⟨⟨ks,vs⟩,hent,hl⟩:=t8 hl;obtain⟨r,hf,hl⟩:=t8 hl;obtain⟨⟨u,b⟩,hu,rfl⟩:=au hl;unfold rX;rw[hm,m7];simp only;rw[hkey,ar]
 have fin:∀z:AV,VS θ ρ u z->VS θ ρ (cond ok (.cq [u,.a (.bool b)]) u) (cond ok (.cq [z,.bool b]) z):=by
  intro z hz;cases ok
  ·exact hz
  ·rw[ar,ar,VS];refine⟨_,rfl,?_⟩;rw[aM];refine⟨z,_,rfl,hz,?_⟩;rw[aM];exact⟨_,[],rfl,by rw[VS],by rw[bj]⟩
 rcases K4 hR hv hent with⟨rfl,he⟩ | ⟨id,l,c,rfl,h1,h2,h3⟩
 ·cases he;simp only[uh,qr] at hf;subst hf;obtain⟨z,hz,hu⟩:=au hu;cases hu;simp only[m7,iq,hz,m6];exact⟨_,rfl,fin _ (A2 z)⟩
 ·simp only at h2 h3 hf;simp only[h1,m6,m7];rw[ui,h2,hf,m7]
  cases r with
  | none=>
   obtain⟨z,hz,hu⟩:=au hu;cases hu;simp only[hz,m6];exact⟨_,rfl,fin _ (A2 z)⟩
  | some i=>
   obtain⟨e,he,hu⟩:=au hu;cases hu;obtain⟨z,hz,kz⟩:=h3.get he;rw[a5] at hz;obtain⟨e3,he3,rfl⟩:=au hz;simp only[he3,m6];exact⟨_,rfl,fin _ kz⟩
def r7{α:Type}(g:AV×AV×Nat->α)(x:AV×AV×Nat):∀(l:List (AV×AV×Nat)) (i:Nat),(setAt x l i).map g=(l.map g).set i (g x)
 | [],i=>by cases i<;>rfl
 | e::l,0=>rfl
 | e::l,i+1=>by
  rw[setAt,am,am,List.set_cons_succ,r7 g x l i]
def ot.snoc{l:List (AV×AV×Nat)}{c:Nat}(h:ot l c)(k v:AV):ot (l++[(k,v,c)]) (c+1):=by
 refine⟨?_,λe he=>?_⟩
 ·rw[bi,List.nodup_append];refine⟨h.1,by simp,?_⟩;intro a ha b hb;obtain⟨e,he,rfl⟩:=mem_map.1 ha;simp only[am,bk,List.mem_singleton] at hb;subst hb;exact Nat.ne_of_lt (h.2 e he)
 ·rcases List.mem_append.1 he with he | he
  ·exact Nat.lt_succ_of_lt (h.2 e he)
  ·rw[rx he];exact bt _
def ot.R5{l l':List (AV×AV×Nat)}{c:Nat}(h:ot l c)(hb:l'.map (·.2.2)=l.map (·.2.2)):ot l' c:=by
 refine⟨by rw[hb];exact h.1,λe he=>?_⟩;have:e.2.2∈l'.map (·.2.2):=List.mem_map_of_mem he;rw[hb] at this;obtain⟨e',he',q⟩:=mem_map.1 this;rw[<-q];exact h.2 e' he'
def AB{h0:En}{h:H}{S S':List SO}(hR:RS θ ρ0 ρ h0 h S){t:TypeId}{v k w:SV}{x y z:AV}(hv:VS θ ρ v x)(hk:VS θ ρ k y)(hw:VS θ ρ w z)(hl:iR P S t v k w=some S'):∃h',kW P h t x y z=some h'/\RS θ ρ0 ρ h0 h' S':=by
 unfold iR at hl;obtain⟨⟨kt,et⟩,hm,hl⟩:=t8 hl;obtain⟨ka,hka,hl⟩:=t8 hl;have:=jT hk hka;subst this;obtain⟨hkey,hl⟩:=aF hl;unfold kW;rw[hm,m7];simp only;rw[hkey,ar]
 cases v with
 | map o=>
  rw[VS] at hv;subst hv;simp only at hl ⊢;split at hl
  ·rename_i ks vs b hS;obtain⟨_,l,c,q1,⟨q2,qb,qp⟩,q3⟩:=hR.obj o _ hS ge
   have hmo:h.mapOf (θ o).id=some (l,c):=by unfold H.mapOf;rw[q1]
   obtain⟨r,hf,hl⟩:=t8 hl;rw[hmo,m7];simp only;rw[ui,q2,hf,m7]
   cases r with
   | none=>
    simp only at hl ⊢;cases hl;refine⟨_,rfl,hR.T8 hS ?_ ?_⟩
    ·refine⟨by rw[bi,q2];rfl,qb.snoc _ _,λp hp=>?_⟩;obtain⟨p0,hp0,rfl⟩:=au hp;obtain⟨e1,e2⟩:=qp p0 hp0;exact⟨by rw[bi,e1,e2];rfl,by rw[e2]⟩
    ·rw[bi];refine q3.app ?_;rw[am,bk,aM];exact⟨_,[],rfl,hw,by rw[bj]⟩
   | some i=>
    simp only at hl ⊢;obtain⟨k0,hk0,hl⟩:=t8 hl;obtain⟨hst,hl⟩:=aF hl;cases hl;rw[<-q2,a5] at hk0;obtain⟨e3,he3,rfl⟩:=au hk0;rw[he3,m7,hst,ar];refine⟨_,rfl,hR.T8 hS ?_ ?_⟩
    ·have hb:(setAt (y,z,e3.2.2) l i).map (·.2.2)=l.map (·.2.2):=by
      rw[r7];apply List.ext_getElem?;intro j;rw[List.getElem?_set];split
      ·rename_i e;subst e;split
       ·rw[a5,he3];rfl
       ·rename_i hl;rw[aY] at hl;rw[a6 (by rw[aY];omega)]
      ·rfl
     exact⟨by rw[r7,q2],qb.R5 hb,λp hp=>by rw[hb];exact qp p hp⟩
    ·rw[r7];exact q3.set i hw
  ·cases hl
 | _=>simp at hl
def da.erase:∀{ds:List SV} {aS:List AV} (i:Nat),da θ ρ ds aS->da θ ρ (ds.eraseIdx i) (aS.eraseIdx i)
 | [],aS,i,h=>by rw[bj] at h;subst h;rw[cv,cv,bj]
 | d::ds,aS,i,h=>by
  rw[aM] at h;obtain⟨a,r,rfl,h1,h2⟩:=h
  cases i with
  | zero=>exact h2
  | succ i=>rw[a4,a4,aM];exact⟨a,_,rfl,h1,da.erase i h2⟩
def fo{α β:Type}(g:α->β):∀(l:List α) (i:Nat),(l.eraseIdx i).map g=(l.map g).eraseIdx i
 | [],i=>by simp
 | a::l,0=>rfl
 | a::l,i+1=>by rw[a4,am,am,a4,fo g l i]
def Rt{h0:En}{h:H}{S S':List SO}(hR:RS θ ρ0 ρ h0 h S){t:TypeId}{v k:SV}{x y:AV}(hv:VS θ ρ v x)(hk:VS θ ρ k y)(hl:MC P S t v k=some S'):∃h',tU P h t x y=some (.cq [],h')/\RS θ ρ0 ρ h0 h' S':=by
 unfold MC at hl;obtain⟨⟨kt,et⟩,hm,hl⟩:=t8 hl;obtain⟨ka,hka,hl⟩:=t8 hl;have:=jT hk hka;subst this;obtain⟨hkey,hl⟩:=aF hl;unfold tU;rw[hm,m7];simp only;rw[hkey,ar]
 cases v with
 | map o=>
  rw[VS] at hv;subst hv;simp only at hl ⊢;split at hl
  ·rename_i ks vs b hS;obtain⟨_,l,c,q1,⟨q2,qb,qp⟩,q3⟩:=hR.obj o _ hS ge
   have hmo:h.mapOf (θ o).id=some (l,c):=by unfold H.mapOf;rw[q1]
   obtain⟨r,hf,rfl⟩:=au hl;rw[hmo,m7];simp only;rw[ui,q2,hf,m6]
   cases r with
   | none=>exact⟨_,rfl,hR⟩
   | some i=>
    refine⟨_,rfl,hR.T8 hS ?_ ?_⟩
    ·refine⟨by rw[fo,q2],⟨by rw[fo];exact qb.1.sublist (List.eraseIdx_sublist _ _),λe he=>qb.2 e (List.mem_of_mem_eraseIdx he)⟩,λp hp=>?_⟩;obtain⟨p0,hp0,rfl⟩:=au hp;obtain⟨e1,e2⟩:=qp p0 hp0;exact⟨by rw[fo,e1],e2⟩
    ·rw[fo];exact q3.erase i
  ·cases hl
 | _=>simp at hl
def RP{h0:En}{h:H}{S:List SO}(hR:RS θ ρ0 ρ h0 h S){t:TypeId}{v:SV}{x:AV}{n:Nat}(hv:VS θ ρ v x)(hl:Au P S t v=some n):GN P h t x=some (.int .i64 (n:Int)):=by
 unfold Au at hl;unfold GN;split at hl
 ·rename_i s hk;rw[As hk];rw[VS] at hv;subst hv;cases hl;rfl
 ·rename_i n' _ cs hk;obtain⟨e,hu⟩:=qg hk;rw[hu];rw[VS,GS] at hv;cases hl
  rcases hv with⟨rfl,_,o,e',c,rfl,_,_⟩ | ⟨id,off,cap,row,rfl,_⟩<;>rfl
 ·rename_i o n' _ c hk;obtain⟨e,hu⟩:=qg hk;rw[hu];rw[VS] at hv;subst hv;cases hl;rfl
 ·rename_i n' _ c hk;obtain⟨e,hu⟩:=qg hk;rw[hu];rw[VS] at hv;subst hv;cases hl;rfl
 ·rename_i hk;obtain⟨kt,et,hu⟩:=Pm hk;rw[hu];obtain⟨e,he,rfl⟩:=au hl
  rcases K4 hR hv he with⟨rfl,rfl⟩ | ⟨id,l,c,rfl,h1,h2,h3⟩
  ·rfl
  ·simp only[h1,m6,<-h2,aY];rfl
 ·rename_i o off n' _ c hk;obtain⟨e,hu⟩:=qg hk;rw[hu];rw[VS] at hv;subst hv;cases hl;rfl
 ·rename_i e hk;obtain⟨e,hu⟩:=qg hk;rw[hu];rw[VS] at hv;obtain⟨o,e',rfl,_⟩:=hv;cases hl;rfl
 ·cases hl
def Hx{h0:En}{h:H}{S:List SO}(hR:RS θ ρ0 ρ h0 h S){s m:Nat}{v:SV}{x:AV}{new:List SV}(hv:VS θ ρ v x)(hl:uT S s v=some (m,new)):
 ∃o es c xs,x=.slice o m es c/\(beq es s||beq m 0)=true/\cz h o m s=some xs/\da θ ρ new xs:=by
 unfold uT at hl;split at hl
 ·rename_i n e cs;obtain⟨hb,hl⟩:=cf hl;cases hl;subst hb;rw[VS,GS] at hv
  rcases hv with⟨rfl,rfl,o,e',c,rfl,_,_⟩ | ⟨id,off,cap,row,rfl,h2,h3,h4⟩
  ·refine⟨o,e',c,[],rfl,by simp,?_,by rw[bj]⟩;unfold cz
   cases o with
   | none=>rfl
   | some q=>rfl
  ·refine⟨_,e,cap,(row.drop off).take (m*e),rfl,by rw[aa,co],?_,h4.vs⟩;unfold cz;simp only;cases hm:beq m 0
   ·rw[aw,mK,Hw hR h2];simp only[m7,lS];rw[fj h3,ar]
   ·have:=cW hm;subst this;rw[ar,bv,be]
 ·rename_i o n e c;split at hl
  ·rename_i cs hS;obtain⟨⟨hes,hle⟩,hl⟩:=cf hl;cases hl;subst hes;rw[VS] at hv;subst hv;obtain⟨_,aS,q1,q2,_⟩:=hR.obj o _ hS ge;refine⟨_,e,c,aS.take (m*e),rfl,by rw[aa,co],?_,q2.take _⟩;unfold cz;simp only;cases hm:beq m 0
   ·rw[aw,mK];unfold sw;rw[q1];simp only[m7,lS];show lS aS 0 (m*e)=_;unfold lS;rw[fj (show 0+m*e<=aS.length by rw[q2.length];omega),ar,bH]
   ·have:=cW hm;subst this;rw[ar,bv,be]
  ·cases hl
 ·cases hl;rw[VS] at hv;subst hv;exact⟨none,0,some 0,[],rfl,by simp,rfl,by rw[bj]⟩
 ·rename_i o off n e c;split at hl
  ·rename_i cs hS;obtain⟨⟨hes,hle⟩,hl⟩:=cf hl;cases hl;subst hes;rw[VS] at hv;subst hv;obtain⟨_,aS,q1,q2,_⟩:=hR.obj o _ hS ge;refine⟨_,e,c,(aS.drop off).take (m*e),rfl,by rw[aa,co],?_,(q2.drop off).take _⟩;unfold cz;simp only;cases hm:beq m 0
   ·rw[aw,mK];unfold sw;rw[q1];simp only[m7,lS];show lS aS off (m*e)=_;unfold lS;rw[fj (show off+m*e<=aS.length by rw[q2.length];omega),ar]
   ·have:=cW hm;subst this;rw[ar,bv,be]
  ·cases hl
 ·cases hl;rw[VS] at hv;obtain⟨o,e',rfl,_⟩:=hv;refine⟨o,e',some 0,[],rfl,by simp,?_,by rw[bj]⟩;unfold cz
  cases o with
  | none=>rfl
  | some q=>rfl
 ·cases hl
def G5{a b:Nat}(h:a≠b):beq a b=false:=by
 cases hb:beq a b
 ·rfl
 ·exact ul (cW hb) h
def Ju{h0:En}{h:H}{S:List SO}(hR:RS θ ρ0 ρ h0 h S){xt e:TypeId}{s m:Nat}{z:AV}{w:SV}{y:AV}{new:List SV}(hz:dm P e=some z)(hzl:z.cells.length=s)(hw:VS θ ρ w y)(hl:yC P S xt s z w=some (m,new)):
 ∃xs,mJ P h e s xt y=some (m,xs)/\da θ ρ new xs:=by
 unfold yC at hl;unfold mJ;split at hl
 ·rename_i hk;obtain⟨e',hux⟩:=qg hk;obtain⟨o,es,c,xs,rfl,k1,k2,k3⟩:=Hx hR hw hl;rw[hux];simp only;rw[k1,ar,k2];exact⟨xs,rfl,k3⟩
 ·obtain⟨hi,hl⟩:=aF hl;obtain⟨n,hn,hl⟩:=t8 hl;obtain⟨hb,hl⟩:=cf hl;cases hl;unfold isInt at hi;split at hi
  ·rename_i kk hu;rw[hu];simp only;rw[Ef hw hn,m7,hz,m7,fj hb,hzl,aa,ad,ar];exact⟨_,rfl,da.a _⟩
  ·cases hi
 ·cases hl
def IM{h0:En}{h:H}{S S':List SO}(hR:RS θ ρ0 ρ h0 h S){st xt:TypeId}{v w r:SV}{x y:AV}{kill:Option Nat}(hv:VS θ ρ v x)(hw:VS θ ρ w y)(hl:yk P S st xt v w=some (r,S',kill)):
 ∃z h' θ',tK P h st xt x y=some (z,h')/\RS θ' ρ0 ρ h0 h' S'/\VS θ' ρ r z/\∀v x,VS θ ρ v x->VS θ' ρ (jX kill v) x:=by
 unfold yk at hl;have hl2:=t8 hl;clear hl;obtain⟨⟨e,s⟩,hel,hl⟩:=hl2;obtain⟨hu,hs⟩:=gG hel;simp only at hu hs hl;obtain⟨i,hi,rfl⟩:=au hs;have hl2:=t8 hl;clear hl;obtain⟨z,hz,hl⟩:=hl2;have hl2:=cf hl;clear hl;obtain⟨⟨b1,b2,b3⟩,hl⟩:=hl2;have hl2:=t8 hl;clear hl;obtain⟨⟨m,new⟩,hrow,hl⟩:=hl2;unfold pP at b3;rw[hi] at b3;simp only at b3 hl;have b2':=G5 b2;obtain⟨xs,happ,k3⟩:=Ju hR hz b1 hw hrow;unfold tK;rw[hu];by_cases hm:m=0
 ·rw[un hm] at hl
  have hmb:beq m 0=true:=by rw[hm];rfl
  unfold Oe at hl;split at hl
  ·cases hl;have hv':=hv;rw[VS] at hv;subst hv;simp only[hi,hz,m7,b1,b2',b3,aa,fj (show 0<=1000000 by omega),aJ,ad,ar,happ,hmb];exact⟨_,_,θ,rfl,hR,hv',λv x h=>h⟩
  ·obtain⟨hn,hl⟩:=cf hl;cases hl;have hv':=hv;rw[VS] at hv;subst hv;simp only[hi,hz,m7,b1,b2',b3,aa,fj hn,aJ,ad,ar,happ,hmb];exact⟨_,_,θ,rfl,hR,hv',λv x h=>h⟩
  ·cases hl;have hv':=hv;rw[VS] at hv;obtain⟨o',e',rfl,_⟩:=hv;simp only[hi,hz,m7,b1,b2',b3,aa,fj (show 0<=1000000 by omega),aJ,ad,ar,happ,hmb];exact⟨_,_,θ,rfl,hR,hv',λv x h=>h⟩
  ·cases hl
 ·rw[ut hm] at hl;have hmb:=G5 hm;have hl2:=cf hl;clear hl;obtain⟨⟨b4,b5⟩,hl⟩:=hl2;have hone:=mH k3 b5;unfold Mf at hl;split at hl
  ·rw[VS] at hv;subst hv;cases hl;obtain⟨n1,n2⟩:=hR.new (so:=.cells new) (ob:=.cells xs h.next) (.inl ⟨new,xs,rfl,rfl,k3⟩);simp only[hi,hz,m7,b1,b2',b3,aa,fj (show 0<=1000000 by omega),aJ,ad,ar,happ,hmb,aw,fj b4,H.nq];refine⟨_,_,_,rfl,n1,?_,n2⟩;rw[VS,cA]
  ·rename_i o' n es';rw[VS] at hv;subst hv;split at hl
   ·rename_i cs hS;obtain⟨⟨c1,c2,c3⟩,hl2⟩:=cf hl;cases hl2;subst c1;obtain⟨_,aS,q1,q2,q3⟩:=hR.obj o' _ hS ge;obtain⟨f1,f2,f3⟩:=hR.fork hS k3 q1 c3
    have hle:ble (n*i.size) aS.length=true:=by rw[q2.length];exact fj c3
    simp only[hi,hz,m7,b1,b2',b3,fj c2,aJ,ad,ar,happ,hmb,aw,fj b4,aa,q1,hle,hone,a9];refine⟨_,_,_,rfl,f2,?_,f3⟩;rw[VS,cA,f1]
   ·cases hl
  ·rename_i e';obtain⟨c1,hl2⟩:=cf hl;cases hl2;rw[VS] at hv;obtain⟨o',e'',rfl,ho'⟩:=hv;obtain⟨n1,n2⟩:=hR.new (so:=.cells new) (ob:=.cells xs h.next) (.inl ⟨new,xs,rfl,rfl,k3⟩)
   cases o' with
   | none=>
    simp only[hi,hz,m7,b1,b2',b3,aa,fj (show 0<=1000000 by omega),aJ,ad,ar,happ,hmb,aw,fj b4,H.nq];refine⟨_,_,_,rfl,n1,?_,n2⟩;rw[VS,cA]
   | some q=>
    have:=ho' gc;subst this;subst c1;obtain⟨id,off⟩:=q
    have hnl:ble (0+m) 0=false:=by
     cases hb:ble (0+m) 0
     ·rfl
     ·have:=md hb;omega
    have hsc:cz h (some (id,off)) 0 i.size=some []:=rfl;simp only[hi,hz,m7,b1,b2',b3,aa,fj (show 0<=1000000 by omega),aJ,ad,ar,happ,hmb,aw,fj b4,H.nq,hnl,hsc,m6,dc];refine⟨_,_,_,rfl,n1,?_,n2⟩;rw[VS,cA,a9]
  ·rename_i o' n es' c';rw[VS] at hv;subst hv;split at hl
   ·rename_i cs hS;obtain⟨⟨c1,c2,c3,c4⟩,hl2⟩:=cf hl;cases hl2;subst c1;obtain⟨_,aS,q1,q2,q3⟩:=hR.obj o' _ hS ge;obtain⟨n1,n2⟩:=hR.new (so:=.cells (cs.take (n*i.size)++new)) (ob:=.cells (aS.take (n*i.size)++xs) h.next) (.inl ⟨_,_,rfl,rfl,(q2.take _).app k3⟩)
    have hnl:ble (n+m) c'=false:=by
     cases hb:ble (n+m) c'
     ·rfl
     ·have:=md hb;omega
    have hsc:cz h (some ((θ o').id,0)) n i.size=some (aS.take (n*i.size)):=by
     unfold cz;simp only;cases hm:beq n 0
     ·rw[aw,mK];unfold sw;rw[q1];simp only[m7];show lS aS 0 (n*i.size)=_;unfold lS;rw[fj (show 0+n*i.size<=aS.length by rw[q2.length];omega),ar,bH]
     ·have:=cW hm;subst this;rw[ar,bv,be]
    simp only[hi,hz,m7,b1,b2',b3,fj c2,aJ,ad,ar,happ,hmb,aw,fj b4,aa,hnl,hsc,m6,H.nq];refine⟨_,_,_,rfl,n1,?_,n2⟩;rw[VS,cA]
   ·cases hl
  ·cases hl
def Rj{x:SV}{a:AV}{c:Nat}(hv:VS θ ρ x a)(hc:IU x=some c):∃o n e,a=.slice o n e (some c):=by
 unfold IU at hc;split at hc
 ·cases hc;rw[VS] at hv;exact⟨_,_,_,hv⟩
 ·cases hc;rw[VS] at hv;exact⟨_,_,_,hv⟩
 ·cases hc;rw[VS] at hv;exact⟨_,_,_,hv⟩
 ·cases hc;rw[VS] at hv;obtain⟨o,e',rfl,_⟩:=hv;exact⟨_,_,_,rfl⟩
 ·cases hc
def Om{x:SV}{a:AV}{o off n e:Nat}(hv:VS θ ρ x a)(hc:UC x=some (o,off,n,e)):∃c,a=.slice (some ((θ o).id,off)) n e c:=by
 unfold UC at hc;split at hc
 ·cases hc;rw[VS] at hv;exact⟨_,hv⟩
 ·cases hc;rw[VS] at hv;exact⟨_,hv⟩
 ·cases hc
def OM{h0:En}{h:H}{S S':List SO}(hR:RS θ ρ0 ρ h0 h S){t:TypeId}{v w r:SV}{x y:AV}{kill:Option Nat}(hv:VS θ ρ v x)(hw:VS θ ρ w y)(hl:K0 P S t v w=some (r,S',kill)):
 ∃z h' θ',F6 P h t x y=some (z,h')/\RS θ' ρ0 ρ h0 h' S'/\VS θ' ρ r z/\∀v x,VS θ ρ v x->VS θ' ρ (jX kill v) x:=by
 unfold K0 at hl;obtain⟨⟨e,s⟩,hel,hl⟩:=t8 hl;obtain⟨hu,hs⟩:=gG hel;obtain⟨⟨o,off,dl,des⟩,hat,hl⟩:=t8 hl;obtain⟨⟨m,new⟩,hrow,hl⟩:=t8 hl;obtain⟨cap,rfl⟩:=Om hv hat;obtain⟨o',es,c,xs,rfl,k1,k2,k3⟩:=Hx hR hw hrow;simp only at hl hu hs hrow k2;unfold F6;rw[hu];simp only;rw[hs,m7];unfold OL at hl;by_cases hn:Nat.min m dl=0
 ·rw[un hn] at hl;cases hl;rw[hn];exact⟨_,_,θ,rfl,hR,by rw[VS],λv x h=>h⟩
 ·rw[ut hn] at hl;split at hl
  ·rename_i cs hS;obtain⟨⟨c1,c2,c3,c4⟩,hl2⟩:=cf hl;cases hl2;subst c1;have hm:m≠0:=λe=>hn (by rw[e];exact Nat.zero_min _)
   have hes:es=des:=by
    rw[G5 hm,d0] at k1;exact cW k1
   subst hes;have hmn:Nat.min m dl<=m:=Nat.min_le_left _ _;generalize Nat.min m dl=n at *
   obtain⟨id,off',row,rfl,hch⟩:∃id off' row,o'=some (id,off')/\sw h.aU id=some row/\off'+m*es<=row.length/\xs=(row.drop off').take (m*es):=by
    unfold cz at k2
    cases o' with
    | none=>simp[G5 hm] at k2
    | some q=>
     obtain⟨id,off'⟩:=q;simp only[G5 hm,aw,mK] at k2;obtain⟨row,hr,k2⟩:=t8 k2;unfold lS at k2;obtain⟨hb,k2⟩:=aF k2;exact⟨id,off',row,rfl,hr,md hb,by cases k2;rfl⟩
   have hle:n*es<=m*es:=a7 _ hmn
   have hsc:cz h (some (id,off')) n es=some (xs.take (n*es)):=by
    unfold cz;simp only[G5 hn,aw,mK,hch.1,m7];unfold lS;rw[fj (show off'+n*es<=row.length by omega),ar,hch.2.2,cc,bd hle]
   have hl1:(new.take (n*es)).length=n*es:=by rw[ch,bd c3]
   obtain⟨h',e1,e2,e3⟩:=hR.store (off:=off) hS (k3.take (n*es)) (mH (k3.take _) c4) (by rw[hl1];exact c2);refine⟨_,h',_,?_,by rw[hl1] at e2;exact e2,by rw[VS],e3⟩;rw[G5 hn,aw,aa,ad,ar,hsc,m7];simp only[e1,m6];rfl
  ·cases hl
def Mu{h0:En}{h:H}{S S':List SO}(hR:RS θ ρ0 ρ h0 h S){t:TypeId}{v r:SV}{x:AV}{kill:Option Nat}(hv:VS θ ρ v x)(hl:DG P S t v=some (r,S',kill)):
 ∃z h' θ',y9 P h t x=some (z,h')/\RS θ' ρ0 ρ h0 h' S'/\VS θ' ρ r z/\∀v x,VS θ ρ v x->VS θ' ρ (jX kill v) x:=by
 unfold DG at hl;obtain⟨⟨e,s⟩,hel,hl⟩:=t8 hl;obtain⟨hu,hs⟩:=gG hel;obtain⟨z,hz,hl⟩:=t8 hl;obtain⟨⟨o,off,n,es⟩,hat,hl⟩:=t8 hl;obtain⟨cap,rfl⟩:=Om hv hat;simp only at hl hu hs hz;unfold y9;rw[hu];simp only;rw[hs,m7,hz,m7];by_cases hn:n=0
 ·rw[un hn] at hl;cases hl;subst hn;exact⟨_,_,θ,rfl,hR,by rw[VS];rfl,λv x h=>h⟩
 ·rw[ut hn] at hl;split at hl
  ·rename_i cs hS;obtain⟨⟨c1,c2,c3,c4⟩,hl2⟩:=cf hl;cases hl2;subst c1
   have hl1:((rep z.cells n).map SV.a).length=n*es:=by
    rw[aY,gB,c2]
   obtain⟨h',e1,e2,e3⟩:=hR.store (off:=off) hS (da.a (rep z.cells n)) c4 (by rw[hl1];exact c3);refine⟨_,h',_,?_,by rw[hl1] at e2;exact e2,by rw[VS],e3⟩;rw[G5 hn,aw,aa,c2,aa,ad,ar];simp only[e1,m6];rfl
  ·cases hl
def FZ{h0:En}{h:H}{S S':List SO}(hR:RS θ ρ0 ρ h0 h S){b:Builtin}{ats:List TypeId}{vs:List SV}{xs:List AV}{r:SV}{kill:Option Nat}(hv:da θ ρ vs xs)(hl:ie P S b ats vs=some (r,S',kill)):
 ∃z h' θ',mY P h b ats xs=some (z,h')/\RS θ' ρ0 ρ h0 h' S'/\VS θ' ρ r z/\∀v x,VS θ ρ v x->VS θ' ρ (jX kill v) x:=by
 unfold ie at hl;split at hl
 ·rename_i st xt l x y;rw[aM] at hv;obtain⟨a,r1,rfl,h1,hv⟩:=hv;rw[aM] at hv;obtain⟨a2,r2,rfl,h2,hv⟩:=hv;rw[bj] at hv;subst hv;have:=IM hR h1 h2 hl;exact this
 ·rename_i t l x xs';rw[aM] at hv;obtain⟨a,r1,rfl,h1,hv⟩:=hv;obtain⟨n,hn,hl⟩:=au hl;cases hl;have:=RP hR h1 hn;refine⟨.int .i64 (n:Int),h,θ,?_,hR,?_,λv x h=>h⟩
  ·show(GN P h t a).map (λv=>(v,h))=_;rw[this];rfl
  ·rw[VS]
 ·rename_i x l;rw[aM] at hv;obtain⟨a,r1,rfl,h1,hv⟩:=hv;obtain⟨n,hn,hl⟩:=au hl;cases hl;obtain⟨z,hz,kz⟩:=Ed h1 hv hn;refine⟨z,h,θ,?_,hR,kz,λv x h=>h⟩;unfold mY;split<;>simp_all
 ·rename_i x l;rw[aM] at hv;obtain⟨a,r1,rfl,h1,hv⟩:=hv;obtain⟨n,hn,hl⟩:=au hl;cases hl;obtain⟨z,hz,kz⟩:=Ed h1 hv hn;refine⟨z,h,θ,?_,hR,kz,λv x h=>h⟩;unfold mY;split<;>simp_all
 ·rename_i t l x k l';rw[aM] at hv;obtain⟨a,r1,rfl,h1,hv⟩:=hv;rw[aM] at hv;obtain⟨a2,r2,rfl,h2,hv⟩:=hv;obtain⟨S2,hS2,hl⟩:=au hl;cases hl;obtain⟨h',e1,e2⟩:=Rt hR h1 h2 hS2;exact⟨_,h',θ,e1,e2,by rw[VS];rfl,λv x h=>h⟩
 ·rename_i dt l x y;rw[aM] at hv;obtain⟨a,r1,rfl,h1,hv⟩:=hv;rw[aM] at hv;obtain⟨a2,r2,rfl,h2,hv⟩:=hv;rw[bj] at hv;subst hv;exact OM hR h1 h2 hl
 ·rename_i t l x;rw[aM] at hv;obtain⟨a,r1,rfl,h1,hv⟩:=hv;rw[bj] at hv;subst hv;exact Mu hR h1 hl
 ·rename_i t l x;rw[aM] at hv;obtain⟨a,r1,rfl,h1,hv⟩:=hv;rw[bj] at hv;subst hv;obtain⟨⟨e,s⟩,hel,hl⟩:=t8 hl;obtain⟨hu,_⟩:=gG hel;obtain⟨c,hc,hl⟩:=au hl;cases hl;obtain⟨o,n,e',rfl⟩:=Rj h1 hc;refine⟨.int .i64 (c:Int),h,θ,?_,hR,by rw[VS],λv x h=>h⟩;show(match P.underlying t with | some (.slice _)=>some (AV.int .i64 (ofNat c),h) | _=>none)=_;rw[hu];rfl
 ·cases hl
def P2{c a b:Option SV}{v:SV}(h:LG c a b=some v):∃z x y,c=some (.a (.bool z))/\a=some x/\b=some y/\v=cond z x y:=by
 unfold LG at h;split at h
 ·cases h;exact⟨_,_,_,rfl,rfl,rfl,rfl⟩
 ·cases h
def FR.kS{f:Fm}{af:Nat->AV}{n:Nat}{kill:Option Nat}{wv:Nat->AV}(hF:FR θ ρ (aP f) af n wv)(hk:∀v x,VS θ ρ v x->VS θ' ρ (jX kill v) x):FR θ' ρ (aP (Ev.kS f kill)) af n wv:=by
 refine⟨λi=>?_,hF.u⟩;have:=hk _ _ (hF.v i)
 cases kill with
 | none=>exact this
 | some o=>show VS θ' ρ (aP (eU o f) i) _;rw[iN];exact this
def FR.put{f:Fm}{af:Nat->AV}{n:Nat}{wv:Nat->AV}(hF:FR θ ρ (aP f) af n wv){d:Nat}{v:SV}{x:AV}(hd:d<n)(hv:VS θ ρ v x):FR θ ρ (aP ((d,v)::f)) (Br af d x) n wv:=by
 refine⟨λi=>?_,hF.u⟩;show VS θ ρ (if d=i then v else aP f i) _;by_cases hdi:d=i
 ·subst hdi;rw[un rfl,un hd,vy];exact hv
 ·rw[ut hdi,sj _ _ (λe=>hdi e.symm)];exact hF.v i
def FR.kill{f:Fm}{af:Nat->AV}{n:Nat}{kill:Option Nat}{wv:Nat->AV}(hF:FR θ ρ (aP f) af n wv)(hk:∀v x,VS θ ρ v x->VS θ' ρ (jX kill v) x){d:Nat}{v:SV}{x:AV}(hd:d<n)(hv:VS θ' ρ v x):FR θ' ρ (aP (tc f kill (some d) v)) (Br af d x) n wv:=(hF.kS hk).put hd hv
def Qu{h0:En}{h:H}{S S':List SO}(hR:RS θ ρ0 ρ h0 h S){f:Fm}{af:Nat->AV}{n:Nat}{wv:Nat->AV}(hF:FR θ ρ (aP f) af n wv){op:Op}{r:SV}{kill:Option Nat}(hop:dO P f S op=some (r,S',kill)):
 ∃rv h' θ',eH P (eB af n) h op=some [(rv,h')]/\RS θ' ρ0 ρ h0 h' S'/\VS θ' ρ r (VD rv)/\∀v x,VS θ ρ v x->VS θ' ρ (jX kill v) x:=by
 have pure:∀{w:SV} {y:AV},eH P (eB af n) h op=some [(some y,h)]->VS θ ρ w y->some (w,S,(none:Option Nat))=some (r,S',kill)->∃rv h' θ',eH P (eB af n) h op=some [(rv,h')]/\RS θ' ρ0 ρ h0 h' S'/\VS θ' ρ r (VD rv)/\∀v x,VS θ ρ v x->VS θ' ρ (jX kill v) x:=by
  intro w y h1 h2 h3;cases h3;exact⟨some y,h,θ,h1,hR,h2,λv x h=>h⟩
 have fresh:∀{so:SO} {ob:AO} {w:SV} {y:AV},eH P (eB af n) h op=some [(some y,{ h.lay h.next ob with next:=h.next+1 })]->((∃cs aS,so=.cells cs/\ob=.cells aS h.next/\da θ ρ cs aS)\/(so=.map [] [] none/\ob=.map [] 0))->VS (gY θ S.length ⟨h.next,h.next,h.next,h.next⟩) ρ w y->some (w,gy S so,some S.length)=some (r,S',kill)->∃rv h' θ',eH P (eB af n) h op=some [(rv,h')]/\RS θ' ρ0 ρ h0 h' S'/\VS θ' ρ r (VD rv)/\∀v x,VS θ ρ v x->VS θ' ρ (jX kill v) x:=by
  intro so ob w y h1 h2 h3 h4;cases h4;obtain⟨k1,k2⟩:=hR.new h2;exact⟨some y,_,_,h1,k1,h3,k2⟩
 cases op with
 | move x=>
  obtain⟨v,hv,e⟩:=au hop;obtain⟨a,ha,ka⟩:=bL hF hv;exact pure (by rw[Sn,ha];rfl) ka (by rw[e])
 | assign x=>
  obtain⟨v,hv,e⟩:=au hop;obtain⟨a,ha,ka⟩:=bL hF hv;exact pure (by rw[M9,ha];rfl) ka (by rw[e])
 | pick c a b=>
  obtain⟨v,hv,e⟩:=au hop;obtain⟨z,x,y,h1,h2,h3,rfl⟩:=P2 hv;obtain⟨c',g1,k1⟩:=bL hF h1;obtain⟨a',g2,k2⟩:=bL hF h2;obtain⟨b',g3,k3⟩:=bL hF h3;rw[VS] at k1;subst k1;exact pure (w:=cond z x y) (y:=cond z a' b') (by rw[Sp,g1,g2,g3];rfl) (by cases z;exact k3;exact k2) (by rw[e])
 | alloc e=>
  obtain⟨z,hz,he⟩:=au hop;exact fresh (w:=.ptr S.length 0) (so:=.cells (z.cells.map .a)) (ob:=.cells z.cells h.next) (by rw[PQ,hz];rfl) (.inl ⟨_,_,rfl,rfl,da.a _⟩) (by rw[VS,cA]) (by rw[he])
 | box e x=>
  obtain⟨v,hv,hop⟩:=t8 hop;obtain⟨cs,hcs,he⟩:=au hop;obtain⟨a,ha,ka⟩:=bL hF hv;exact fresh (w:=.ptr S.length 0) (so:=.cells cs) (ob:=.cells a.cells h.next) (by rw[Uf,ha];rfl) (.inl ⟨_,_,rfl,rfl,vM ka hcs⟩) (by rw[VS,cA]) (by rw[he])
 | build tt ps=>
  obtain⟨l,hl,hop⟩:=t8 hop;obtain⟨v,hv,he⟩:=au hop;obtain⟨aS,h1,k1⟩:=wK hF hl;obtain⟨a,ha,ka⟩:=Mk k1 hv;exact pure (by rw[PT,h1,m7,ha];rfl) ka (by rw[he])
 | buildSlice tt m ps=>
  obtain⟨l,hl,hop⟩:=t8 hop;obtain⟨q,hv,he⟩:=au hop;obtain⟨aS,h1,k1⟩:=wK hF hl;obtain⟨cs,ha,ka⟩:=yY k1 hv;exact fresh (w:=.buf S.length m q.1 (some m)) (so:=.cells q.2) (ob:=.cells cs h.next) (by rw[BJ,h1,m7,ha];rfl) (.inl ⟨_,_,rfl,rfl,ka⟩) (by rw[VS,cA]) (by rw[he])
 | makeMap tt x=>
  cases x with
  | none=>
   have he:some ((SV.map S.length,gy S (.map [] [] none),some S.length):SV×List SO×Option Nat)=some (r,S',kill):=hop;exact fresh (w:=.map S.length) (so:=.map [] [] none) (ob:=.map [] 0) (by rw[Jz]) (.inr ⟨rfl,rfl⟩) (by rw[VS,cA]) he
  | some _=>simp[dO] at hop
 | makeSlice tt l c=>
  simp only[dO] at hop;split at hop
  ·rename_i la ca hl hc;obtain⟨q,hq,he⟩:=au hop;obtain⟨l',g1,k1⟩:=bL hF hl;obtain⟨c',g2,k2⟩:=bL hF hc;rw[VS] at k1 k2;subst k1;subst k2;refine fresh (w:=.buf S.length q.1 q.2.1 (some q.2.2.1)) (so:=.cells (q.2.2.2.map .a)) (ob:=.cells q.2.2.2 h.next) (y:=.slice (some (h.next,0)) q.1 q.2.1 (some q.2.2.1)) ?_ (.inl ⟨_,_,rfl,rfl,da.a _⟩) (by rw[VS,cA]) (by rw[he]);simp only[eH,pK,g1,g2,m7,hq,m6]
  ·cases hop
 | load tt a=>
  obtain⟨a',ha,hop⟩:=t8 hop;obtain⟨v,hv,he⟩:=au hop;obtain⟨x,g1,k1⟩:=bL hF ha;obtain⟨y,g2,k2⟩:=GO hR k1 hv;exact pure (by rw[Sl,g1,g2];rfl) k2 (by rw[he])
 | store tt a x=>
  obtain⟨a',ha,hop⟩:=t8 hop;obtain⟨x',hx,hop⟩:=t8 hop;obtain⟨S2,hS,he⟩:=au hop;cases he;obtain⟨p,g1,k1⟩:=bL hF ha;obtain⟨y,g2,k2⟩:=bL hF hx;obtain⟨h',θ',e1,e2,e3⟩:=Ns hR k1 k2 hS;exact⟨none,h',θ',by rw[PY,g1,g2,e1];rfl,e2,by rw[VS];rfl,e3⟩
 | nilCheck x=>
  obtain⟨a',ha,hop⟩:=t8 hop;obtain⟨v,hv,he⟩:=au hop;obtain⟨p,g1,k1⟩:=bL hF ha;obtain⟨e1,rfl⟩:=RW (P:=P) k1 hv;refine pure (y:=p) ?_ k1 (by rw[he]);simp only[eH,g1,m7,e1,m6]
 | binOp op t x y yt=>
  obtain⟨x',hx,hop⟩:=t8 hop;obtain⟨y',hy,hop⟩:=t8 hop;obtain⟨xa,hxa,hop⟩:=t8 hop;obtain⟨ya,hya,hop⟩:=t8 hop;obtain⟨v,hv,he⟩:=au hop;obtain⟨p,g1,k1⟩:=bL hF hx;obtain⟨q,g2,k2⟩:=bL hF hy;have e1:=jT k1 hxa;have e2:=jT k2 hya;subst e1;subst e2;exact pure (w:=.a v) (y:=v) (by rw[PS,g1,g2,m7,m7,hv];rfl) (by rw[VS]) (by rw[he])
 | unOp op t x=>
  obtain⟨x',hx,hop⟩:=t8 hop;obtain⟨xa,hxa,hop⟩:=t8 hop;obtain⟨v,hv,he⟩:=au hop;obtain⟨p,g1,k1⟩:=bL hF hx;have e1:=jT k1 hxa;subst e1;exact pure (w:=.a v) (y:=v) (by rw[U1,g1,m7,hv];rfl) (by rw[VS]) (by rw[he])
 | convert s d x=>
  obtain⟨x',hx,hop⟩:=t8 hop;obtain⟨xa,hxa,hop⟩:=t8 hop;obtain⟨v,hv,he⟩:=au hop;obtain⟨p,g1,k1⟩:=bL hF hx;have e1:=jT k1 hxa;subst e1;exact pure (w:=.a v) (y:=v) (by rw[Sj,g1,m7,hv];rfl) (by rw[VS]) (by rw[he])
 | makeInterface t x=>
  simp only[dO] at hop;obtain⟨hi,hop⟩:=aF hop;obtain⟨v,hv,he⟩:=au hop;obtain⟨p,g1,k1⟩:=bL hF hv;refine pure (w:=.iface t v) (y:=.iface t p) ?_ (by rw[VS];exact⟨p,rfl,k1⟩) (by rw[he]);unfold Lh at hi
  cases hu:P.underlying t with
  | none=>rw[hu] at hi;cases hi
  | some d=>
   rw[hu] at hi;rw[PV hu (by cases d<;>first | rfl | cases hi),g1];rfl
 | makeFunc g first cap=>
  cases g with
  | func g=>
   obtain⟨a,ha,hop⟩:=t8 hop;obtain⟨b,hb,he⟩:=au hop;obtain⟨p,g1,k1⟩:=mD hF ha;obtain⟨q,g2,k2⟩:=mD hF hb;exact pure (w:=.fn g a b) (y:=.fn (.func g) p q) (by rw[Sk,g1,g2];rfl) (by rw[VS];exact⟨p,q,rfl,k1,k2⟩) (by rw[he])
  | method nm=>
   obtain⟨a,ha,hop⟩:=t8 hop;obtain⟨a2,ha2,hop⟩:=t8 hop;obtain⟨b,hb,hop⟩:=t8 hop;obtain⟨b2,hb2,he⟩:=au hop;obtain⟨p,g1,k1⟩:=mD hF ha;obtain⟨q,g2,k2⟩:=mD hF hb;have e1:=oQ k1 ha2;have e2:=oQ k2 hb2;subst e1;subst e2;exact pure (w:=.a (.fn (.method nm) p q)) (y:=.fn (.method nm) p q) (by rw[Sm,g1,g2];rfl) (by rw[VS]) (by rw[he])
  | _=>simp[dO] at hop
 | slice tt x lo hi mx=>
  obtain⟨x',hx,hop⟩:=t8 hop;obtain⟨lo',hlo,hop⟩:=t8 hop;obtain⟨hi',hhi,hop⟩:=t8 hop;obtain⟨mx',hmx,hop⟩:=t8 hop;obtain⟨v,hv,he⟩:=au hop;obtain⟨p,g1,k1⟩:=bL hF hx;obtain⟨y,g2,k2⟩:=Nq (h:=h) k1 hv;refine pure (y:=y) ?_ k2 (by rw[he]);rw[PX,g1,ED hF hlo,ED hF hhi,ED hF hmx];simp only[m7,g2,m6]
 | fieldAddr s x fl=>
  obtain⟨x',hx,hop⟩:=t8 hop;obtain⟨v,hv,he⟩:=au hop;obtain⟨p,g1,k1⟩:=bL hF hx;obtain⟨y,g2,k2⟩:=BA k1 hv;exact pure (by rw[Ek,g1,m7,g2];rfl) k2 (by rw[he])
 | field s x fl=>
  obtain⟨x',hx,hop⟩:=t8 hop;obtain⟨v,hv,he⟩:=au hop;obtain⟨p,g1,k1⟩:=bL hF hx;obtain⟨y,g2,k2⟩:=MK k1 hv;exact pure (by rw[PU,g1,m7,g2];rfl) k2 (by rw[he])
 | indexAddr t x i=>
  obtain⟨x',hx,hop⟩:=t8 hop;obtain⟨i',hi,hop⟩:=t8 hop;obtain⟨v,hv,he⟩:=au hop;obtain⟨p,g1,k1⟩:=bL hF hx;obtain⟨q,g3,k3⟩:=bL hF hi;obtain⟨y,g2,k2⟩:=BC k1 k3 hv;exact pure (by rw[El,g1,g3,m7,m7,g2];rfl) k2 (by rw[he])
 | index t x i=>
  obtain⟨x',hx,hop⟩:=t8 hop;obtain⟨i',hi,hop⟩:=t8 hop;obtain⟨v,hv,he⟩:=au hop;obtain⟨p,g1,k1⟩:=bL hF hx;obtain⟨q,g3,k3⟩:=bL hF hi;obtain⟨y,g2,k2⟩:=MO k1 k3 hv;exact pure (by rw[PW,g1,g3,m7,m7,g2];rfl) k2 (by rw[he])
 | lookup t x k ok=>
  obtain⟨x',hx,hop⟩:=t8 hop;obtain⟨i',hi,hop⟩:=t8 hop;obtain⟨v,hv,he⟩:=au hop;obtain⟨p,g1,k1⟩:=bL hF hx;obtain⟨q,g3,k3⟩:=bL hF hi;obtain⟨y,g2,k2⟩:=Jl hR k1 k3 hv;exact pure (by rw[Nb,g1,g3,m7,m7,g2];rfl) k2 (by rw[he])
 | mapUpdate t m k x=>
  obtain⟨m',hm,hop⟩:=t8 hop;obtain⟨k',hk,hop⟩:=t8 hop;obtain⟨x',hx,hop⟩:=t8 hop;obtain⟨S2,hS,he⟩:=au hop;cases he;obtain⟨p,g1,k1⟩:=bL hF hm;obtain⟨q,g2,k2⟩:=bL hF hk;obtain⟨y,g3,k3⟩:=bL hF hx;obtain⟨h',e1,e2⟩:=AB hR k1 k2 k3 hS;refine⟨none,h',θ,?_,e2,by rw[VS];rfl,λv x h=>h⟩;rw[Em,g1,g2,g3];simp only[m7,e1,m6]
 | insert t m k x=>
  obtain⟨m',hm,hop⟩:=t8 hop;obtain⟨k',hk,hop⟩:=t8 hop;obtain⟨x',hx,hop⟩:=t8 hop;obtain⟨S2,hS,he⟩:=au hop;cases he;obtain⟨p,g1,k1⟩:=bL hF hm;obtain⟨q,g2,k2⟩:=bL hF hk;obtain⟨y,g3,k3⟩:=bL hF hx;obtain⟨h',e1,e2⟩:=AB hR k1 k2 k3 hS;refine⟨none,h',θ,?_,e2,by rw[VS];rfl,λv x h=>h⟩;simp only[eH,g1,g2,g3,m7,e1,m6]
 | extract x i=>
  simp only[dO] at hop;split at hop
  ·rename_i vs hx;obtain⟨v,hv,he⟩:=au hop;obtain⟨p,g1,k1⟩:=bL hF hx;rw[VS] at k1;obtain⟨aS,rfl,k1⟩:=k1;obtain⟨y,g2,k2⟩:=k1.get hv;refine pure (y:=y) ?_ k2 (by rw[he]);rw[Jy,g1];simp only[Cj,g2,m6]
  ·cases hop
 | call c=>
  obtain⟨callee,args,ats⟩:=c
  cases callee with
  | builtin b=>
   obtain⟨xs,hxs,hop⟩:=t8 hop;obtain⟨p,g1,k1⟩:=mD hF hxs;obtain⟨z,h',θ',e1,e2,e3,e4⟩:=FZ hR k1 hop;refine⟨some z,h',θ',?_,e2,e3,e4⟩;rw[Jx,g1,m7,e1];rfl
  | _=>simp[dO] at hop
 | _=>simp[dO] at hop
end
structure eR where
 f:Fm
 n:Nat
 S:List SO
 ds:List kr
def UD(ds:List kr)(j:Nat):AV:=match ds.reverse[j]? with
 | some d=>match d.fn with
  | some f=>.fn f d.args d.cap
  | none=>mg
 | none=>mg
def IC(w:Nat->AV):List kr->Nat->AV
 | [],i=>w i
 | d::ds,i=>if 7000000<=i then UD (d::ds) (i-7000000) else w i
def jQ(ρ0:kG)(h0:En)(st:eR)(ast:iJ):Prop:=ast.n=st.n/\ast.ds=st.ds/\∃θ ρ,RS θ ρ0 ρ h0 ast.h st.S/\FR θ ρ (aP st.f) ast.f st.n (IC h0.w ast.ds)
def UM(ρ0:kG)(h0:En)(N:Nat)(Q:Ex->eR->Prop):Ex->iJ->Prop:=λex ast=>∃st,Q ex st/\st.n=N/\jQ ρ0 h0 st ast
def aE(P:Program)(ro:Option Nat)(c:Code)(st:eR)(Q:Ex->eR->Prop):Prop:=∀ρ0 h0 ast,jQ ρ0 h0 st ast->mh P ro c ast (UM ρ0 h0 st.n Q)
def aR(P:Program)(ro:Option Nat)(all l:List Oper)(st:eR)(K:eR->Prop):Prop:=∀ρ0 h0 ast,jQ ρ0 h0 st ast->jO P ro all l ast (λast'=>∃st',K st'/\st'.n=st.n/\jQ ρ0 h0 st' ast')
section
variable {P:Program} {ro:Option Nat}
def aE.mono{c:Code}{st:eR}{Q Q':Ex->eR->Prop}(h:aE P ro c st Q)(hq:∀e x,Q e x->Q' e x):aE P ro c st Q':=
 λρ0 h0 ast hs=>(h ρ0 h0 ast hs).mono λ_ _ ⟨x,h1,h2⟩=>⟨x,hq _ _ h1,h2⟩
def aE.skip{st:eR}{Q:Ex->eR->Prop}(h:Q .normal st):aE P ro .skip st Q:=λ_ _ _ hs=>.skip ⟨st,h,rfl,hs⟩
def aE.exit{id:Nat}{st:eR}{Q:Ex->eR->Prop}(h:Q (.exit id) st):aE P ro (.exit id) st Q:=λ_ _ _ hs=>.exit ⟨st,h,rfl,hs⟩
def aE.ret{st:eR}{Q:Ex->eR->Prop}(h:Q .ret st):aE P ro .ret st Q:=λ_ _ _ hs=>.ret ⟨st,h,rfl,hs⟩
def df(P:Program)(ro:Option Nat)(y:Code)(Q:Ex->eR->Prop):Ex->eR->Prop
 | .normal,st=>aE P ro y st Q
 | e,st=>Q e st
def aE.seq{x y:Code}{st:eR}{Q:Ex->eR->Prop}(h:aE P ro x st (df P ro y Q)):aE P ro (.seq x y) st Q:=by
 intro ρ0 h0 ast hs;refine .seq ((h ρ0 h0 ast hs).mono ?_);rintro e a ⟨st',h1,h2,h3⟩
 cases e with
 | normal=>
  have:=h1 ρ0 h0 a h3;rw[h2] at this;exact this
 | _=>exact⟨st',h1,h2,h3⟩
def aE.cond{c:Operand}{x y:Code}{st:eR}{Q:Ex->eR->Prop}{b:Bool}(hc:gf st.f c=some (.a (.bool b)))(h1:b=true->aE P ro x st Q)(h2:b=false->aE P ro y st Q):aE P ro (.cond c x y) st Q:=by
 intro ρ0 h0 ast hs;obtain⟨a1,a2,θ,ρ,hR,hF⟩:=hs;rw[<-a1] at hF;obtain⟨a,ha,ka⟩:=bL hF hc;rw[VS] at ka;subst ka;refine .cond ha (λh=>h1 h ρ0 h0 ast ⟨a1,a2,θ,ρ,hR,by rw[<-a1];exact hF⟩) (λh=>h2 h ρ0 h0 ast ⟨a1,a2,θ,ρ,hR,by rw[<-a1];exact hF⟩)
def aE.yes{c:Operand}{x y:Code}{st:eR}{Q:Ex->eR->Prop}(hc:gf st.f c=some (.a (.bool true)))(h1:aE P ro x st Q):aE P ro (.cond c x y) st Q:=.cond hc (λ_=>h1) ge
def aE.no{c:Operand}{x y:Code}{st:eR}{Q:Ex->eR->Prop}(hc:gf st.f c=some (.a (.bool false)))(h1:aE P ro y st Q):aE P ro (.cond c x y) st Q:=.cond hc ge (λ_=>h1)
def e8(id:Nat)(Q:Ex->eR->Prop):Ex->eR->Prop
 | .exit i,st=>if i=id then Q .normal st else Q (.exit i) st
 | e,st=>Q e st
def aE.block{id:Nat}{x:Code}{st:eR}{Q:Ex->eR->Prop}(h:aE P ro x st (e8 id Q)):aE P ro (.block id x) st Q:=by
 intro ρ0 h0 ast hs;refine .block ((h ρ0 h0 ast hs).mono ?_);rintro e a ⟨st',h1,h2,h3⟩
 cases e with
 | exit i=>
  simp only[e8] at h1;simp only[N2];by_cases hi:i=id
  ·rw[un hi] at h1 ⊢;exact⟨st',h1,h2,h3⟩
  ·rw[ut hi] at h1 ⊢;exact⟨st',h1,h2,h3⟩
 | _=>exact⟨st',h1,h2,h3⟩
def Fg(st st':eR):Prop:=st'.n=st.n/\∀ρ0 h0 ast,jQ ρ0 h0 st ast->jQ ρ0 h0 st' ast
def Fg.trans{a b c:eR}(h1:Fg a b)(h2:Fg b c):Fg a c:=⟨h2.1.trans h1.1,λ_ _ _ h=>h2.2 _ _ _ (h1.2 _ _ _ h)⟩
def aE.fg{c:Code}{st st':eR}{Q:Ex->eR->Prop}(hf:Fg st st')(h:aE P ro c st' Q):aE P ro c st Q:=by
 intro ρ0 h0 ast hs;have:=h ρ0 h0 ast (hf.2 _ _ _ hs);rw[hf.1] at this;exact this
def bW(I:Nat->eR->Prop)(m:Nat)(Q:Ex->eR->Prop):Ex->eR->Prop
 | .normal,st=>∃k st',k<m/\Fg st st'/\I k st'
 | e,st=>Q e st
def aE.loop{x:Code}{st:eR}{Q:Ex->eR->Prop}(I:Nat->eR->Prop)(m:Nat){st0:eR}(hf:Fg st st0)(h0:I m st0)(hn:∀m st',I m st'->st'.n=st.n)(h:∀m st,I m st->aE P ro x st (bW I m Q)):aE P ro (.loop x) st Q:=by
 intro ρ0 hh ast hs;refine .loop (λm a=>∃st',I m st'/\jQ ρ0 hh st' a) m ⟨st0,h0,hf.2 _ _ _ hs⟩ ?_;rintro k a ⟨st1,hI,hst⟩;refine(h k st1 hI ρ0 hh a hst).mono ?_;rintro e a' ⟨st',h1,h2,h3⟩;have hn1:=hn _ _ hI
 cases e with
 | normal=>
  obtain⟨k',st2,hk,hfg,hI2⟩:=h1;exact⟨k',hk,st2,hI2,hfg.2 _ _ _ h3⟩
 | _=>exact⟨st',h1,h2.trans hn1,h3⟩
def bI(Q:Ex->eR->Prop):Ex->eR->Prop
 | .goto _,_=>False
 | e,st=>Q e st
def aE.region{id:Nat}{ops:Array Oper}{st:eR}{Q:Ex->eR->Prop}(h:aR P ro ops.toList ops.toList st (Q .normal)):aE P ro (.region id ops false) st Q:=by
 intro ρ0 h0 ast hs;obtain⟨f,n,hh,ds⟩:=ast;refine .region ?_;have:=h ρ0 h0 _ hs;intro ops i h1 h2 F n σ a w Q' h3 h4 h5;exact this ops i h1 h2 F n σ a w Q' h3 h4 λst' a' w' σ' h6=>h5 st' a' w' σ' (by obtain⟨x,k1,k2,k3⟩:=h6;exact⟨x,k1,k2,k3⟩)
def vC(ops:List Oper)(f:Fm)(n:Nat)(o:Oper):Option Bool:=match o.guard with
 | none=>some true
 | some (j,want)=>match (ops[j]?).bind (·.dst) with
  | some d=>_root_.cond (blt d n) (match aP f d with
   | .a (.bool b)=>some (b==want)
   | .a (.cq [])=>some false
   | _=>none) none
  | none=>none
def dr{θ:Nat->Loc}{ρ:kG}{ops:List Oper}{f:Fm}{af:Nat->AV}{n:Nat}{wv:Nat->AV}(hF:FR θ ρ (aP f) af n wv){o:Oper}{b:Bool}(h:vC ops f n o=some b):lu ops af n o=some b:=by
 unfold vC at h;unfold lu;split at h
 ·rename_i hg;rw[hg];exact h
 ·rename_i j want hg;rw[hg];simp only;split at h
  ·rename_i d hd;obtain⟨hlt,h2⟩:=aF h;have:=hF.v d;rw[un (gp hlt)] at this;rw[hd];simp only;rw[hlt,ar];split at h2
   ·rename_i hx;rw[hx,VS] at this;rw[this];exact h2
   ·rename_i hx;rw[hx,VS] at this;rw[this];exact h2
   ·cases h2
  ·cases h
def eP(all:List Oper)(n:Nat)(l:List Oper):Bool:=l.all λo=>zh o.dst n&&(match o.guard with
 | none=>true
 | some (j,_)=>match (all[j]?).bind (·.dst) with
  | some d=>blt d n
  | none=>false)
def IB(want:Bool):SV->Option Bool
 | .a (.bool b)=>some (_root_.cond want b (!b))
 | .a (.cq [])=>some false
 | _=>none
def cV(all:List Oper)(f:Fm)(g:Option (Nat×Bool)):Option Bool:=match g with
 | none=>some true
 | some (j,want)=>(all[j]?).bind λo=>o.dst.bind λd=>IB want (aP f d)
def fi{all:List Oper}{f:Fm}{n:Nat}{o:Oper}{l:List Oper}{b:Bool}(hs:eP all n (o::l)=true)(h:cV all f o.guard=some b):vC all f n o=some b:=by
 unfold eP at hs;rw[ci,ac,ac] at hs;have hs2:=hs.1.2;unfold cV at h;unfold vC
 cases hg:o.guard with
 | none=>rw[hg] at h;exact h
 | some q=>
  obtain⟨j,want⟩:=q;rw[hg] at h hs2;simp only at h hs2 ⊢;obtain⟨oj,hj,h⟩:=t8 h;obtain⟨d,hd,h⟩:=t8 h;rw[hj,m7,hd] at hs2 ⊢;simp only at hs2 ⊢;rw[hs2,ar];unfold IB at h;split at h
  ·rename_i b' hb;cases want<;>cases b'<;>exact h
  ·exact h
  ·cases h
def fW{all:List Oper}{n:Nat}{o:Oper}{l:List Oper}(hs:eP all n (o::l)=true):zh o.dst n=true/\eP all n l=true:=by
 unfold eP at hs ⊢;rw[ci,ac,ac] at hs;exact⟨hs.1.1,hs.2⟩
def pw(P:Program)(all:List Oper):List Oper->Fm->List SO->List Oper×Fm×List SO
 | [],f,S=>([],f,S)
 | o::l,f,S=>match cV all f o.guard with
  | some true=>match dO P f S o.op with
   | some q=>pw P all l (tc f q.2.2 o.dst q.1) q.2.1
   | none=>(o::l,f,S)
  | some false=>match o.dst with
   | some d=>pw P all l ((d,.a mg)::f) S
   | none=>(o::l,f,S)
  | none=>(o::l,f,S)
def aR.nil{all:List Oper}{st:eR}{K:eR->Prop}(h:K st):aR P ro all [] st K:=λ_ _ _ hs=>.nil ⟨st,h,rfl,hs⟩
def C1{f:Fm}{S:List SO}{op:Op}{q:SV×List SO×Option Nat}(h:dO P f S op=some q):uC op=true:=by
 cases op<;>first | rfl | (simp[dO] at h;done)
def aR.run{all:List Oper}{ds:List kr}{n:Nat}{K:eR->Prop}:∀{l l':List Oper} {f f':Fm} {S S':List SO},eP all n l=true->pw P all l f S=(l',f',S')->aR P ro all l' ⟨f',n,S',ds⟩ K->aR P ro all l ⟨f,n,S,ds⟩ K
 | [],l',f,f',S,S',_,h,hk=>by
  simp only[pw,m8] at h;obtain⟨rfl,rfl,rfl⟩:=h;exact hk
 | o::l,l',f,f',S,S',hst,h,hk=>by
  have stop:(o::l,f,S)=(l',f',S')->aR P ro all (o::l) ⟨f,n,S,ds⟩ K:=by
   intro e;simp only[m8] at e;obtain⟨rfl,rfl,rfl⟩:=e;exact hk
  obtain⟨hd,hst2⟩:=fW hst;unfold pw at h;split at h
  ·rename_i hw;have hw:=fi hst hw;split at h
   ·rename_i q hop;obtain⟨v,S1,kill⟩:=q;rintro ρ0 h0 ⟨af,n',hh,ds'⟩ ⟨rfl,rfl,θ,ρ,hR,hF⟩;obtain⟨rv,h',θ',e1,e2,e3,e4⟩:=Qu hR hF hop;refine .cons (dr hF hw) (.run (C1 hop) hd e1 ?_);intro x hx;rw[rx hx];refine aR.run hst2 h hk ρ0 h0 _ ⟨rfl,rfl,θ',ρ,e2,?_⟩
    cases hdd:o.dst with
    | none=>exact hF.kS e4
    | some d=>rw[hdd] at hd;cases rv<;>exact hF.kill e4 (gp hd) e3
   ·exact stop h
  ·rename_i hw;have hw:=fi hst hw;split at h
   ·rename_i d hdst;rw[hdst] at hd;rintro ρ0 h0 ⟨af,n',hh,ds'⟩ ⟨rfl,rfl,θ,ρ,hR,hF⟩;refine .s hdst (dr hF hw) hd ?_;exact aR.run hst2 h hk ρ0 h0 _ ⟨rfl,rfl,θ,ρ,hR,hF.put (gp hd) (by rw[VS])⟩
   ·exact stop h
  ·exact stop h
end
mutual
inductive Wk (S:List SO):SV->SV->Prop
 | any (v:SV):Wk S v .any
 | a (v:AV):Wk S (.a v) (.a v)
 | sl (n e:Nat) (cs:List SV):Wk S (.sl n e cs) (.sl n e cs)
 | im (ks:List AV) (vs:List SV):Wk S (.im ks vs) (.im ks vs)
 | ip (cs:List SV):Wk S (.ip cs) (.ip cs)
 | nil (e:Nat):Wk S (.a (.slice none 0 0 (some 0))) (.sl 0 e [])
 | ptr {o off:Nat} {cs ds:List SV}:S[o]?=some (.cells cs)->bm S (cs.drop off) ds->off<=cs.length->Wk S (.ptr o off) (.ip ds)
 | buf {o n e:Nat} {c:Option Nat} {cs ds:List SV}:S[o]?=some (.cells cs)->bm S (cs.take (n*e)) ds->n*e<=cs.length->Wk S (.buf o n e c) (.sl n e ds)
 | sub {o off n e:Nat} {c:Option Nat} {cs ds:List SV}:S[o]?=some (.cells cs)->bm S ((cs.drop off).take (n*e)) ds->off+n*e<=cs.length->Wk S (.sub o off n e c) (.sl n e ds)
 | e0 (e:Nat):Wk S (.e0 e) (.e0 e)
 | US (e:Nat):Wk S (.e0 e) (.sl 0 e [])
 | map {o:Nat} {ks:List AV} {vs ws:List SV} {b:Option (List Nat×Nat)}:S[o]?=some (.map ks vs b)->bm S vs ws->Wk S (.map o) (.im ks ws)
 | ag {cs ds:List SV}:bm S cs ds->Wk S (.ag cs) (.ag ds)
 | cq {cs ds:List SV}:bm S cs ds->Wk S (.cq cs) (.cq ds)
 | fn {g:FuncId} {a b c d:List SV}:bm S a c->bm S b d->Wk S (.fn g a b) (.fn g c d)
 | iface {t:TypeId} {v w:SV}:Wk S v w->Wk S (.iface t v) (.iface t w)
inductive bm (S:List SO):List SV->List SV->Prop
 | nil:bm S [] []
 | cons {v w:SV} {vs ws:List SV}:Wk S v w->bm S vs ws->bm S (v::vs) (w::ws)
end
def pq(θ:Nat->Loc)(ρ:kG)(h:H)(S:List SO):kG:=λid=>match ρ id with
 | some ob=>some ob
 | none=>@ite _ (∃o so,S[o]?=some so/\so≠.gone/\(θ o).id=id) (Classical.propDecidable _) (h.aU.get id) none
section
variable {θ:Nat->Loc} {ρ ρ0:kG} {P:Program} {h0:En} {h:H} {S:List SO}
def rk{id:Nat}{ob:AO}(hi:ρ id=some ob):pq θ ρ h S id=some ob:=by unfold pq;rw[hi]
def uP(hR:RS θ ρ0 ρ h0 h S){o:Nat}{so:SO}(hS:S[o]?=some so)(hg:so≠.gone):pq θ ρ h S (θ o).id=h.aU.get (θ o).id:=by
 unfold pq
 cases hr:ρ (θ o).id with
 | some ob=>rw[(hR.row _ _ hr).2.1]
 | none=>simp only;rw[un ⟨o,so,hS,hg,rfl⟩]
mutual
def Wk.ok(hR:RS θ ρ0 ρ h0 h S):∀{v w:SV} {x:AV},Wk S v w->VS θ ρ v x->GS (pq θ ρ h S) w x
 | _,_,_,.any v,_=>by rw[GS];trivial
 | _,_,_,.a v,hv=>by rw[VS] at hv;rw[GS];exact hv
 | _,_,_,.sl n e cs,hv=>by rw[VS] at hv;exact hv.mono λ_ _ h=>rk h
 | _,_,_,.im ks vs,hv=>by rw[VS] at hv;exact hv.mono λ_ _ h=>rk h
 | _,_,_,.ip cs,hv=>by rw[VS] at hv;exact hv.mono λ_ _ h=>rk h
 | _,_,_,.nil e,hv=>by
  rw[VS] at hv;subst hv;rw[GS];exact .inl ⟨rfl,rfl,none,0,some 0,rfl,λ_=>rfl,λh=>ul rfl h⟩
 | _,_,_,@Wk.ptr _ o off cs ds hS hw hle,hv=>by
  rw[VS] at hv;subst hv;obtain⟨_,aS,q1,q2,_⟩:=hR.obj o _ hS ge;rw[GS];refine⟨_,off,aS,aS.length-off,rfl,?_,?_,?_⟩
  ·unfold wI;rw[uP hR hS ge,q1]
  ·rw[q2.length];omega
  ·have:=bm.ok hR hw (q2.drop off);rw[ce (by rw[bc];exact b7 _)];exact this
 | _,_,_,@Wk.buf _ o n e c cs ds hS hw hle,hv=>by
  rw[VS] at hv;subst hv;obtain⟨_,aS,q1,q2,_⟩:=hR.obj o _ hS ge;rw[GS];refine .inr ⟨_,0,c,aS,rfl,?_,by rw[q2.length];omega,?_⟩
  ·unfold wI;rw[uP hR hS ge,q1]
  ·rw[bH];exact bm.ok hR hw (q2.take _)
 | _,_,_,@Wk.sub _ o off n e c cs ds hS hw hle,hv=>by
  rw[VS] at hv;subst hv;obtain⟨_,aS,q1,q2,_⟩:=hR.obj o _ hS ge;rw[GS];refine .inr ⟨_,off,c,aS,rfl,?_,by rw[q2.length];omega,?_⟩
  ·unfold wI;rw[uP hR hS ge,q1]
  ·exact bm.ok hR hw ((q2.drop off).take _)
 | _,_,_,.e0 e,hv=>by rw[VS] at hv;rw[GS];exact hv
 | _,_,_,.US e,hv=>by
  rw[VS] at hv;obtain⟨o,e',rfl,ho⟩:=hv;rw[GS];exact .inl ⟨rfl,rfl,o,e',some 0,rfl,λ_=>rfl,ho⟩
 | _,_,_,@Wk.map _ o ks vs ws b hS hw,hv=>by
  rw[VS] at hv;subst hv;obtain⟨_,l,c,q1,q2,q3⟩:=hR.obj o _ hS ge;rw[GS];exact⟨_,l,c,rfl,by rw[uP hR hS ge,q1],⟨q2.1,q2.2.1,λp hp=>by cases hp⟩,bm.ok hR hw q3⟩
 | _,_,_,.ag hw,hv=>by rw[VS] at hv;obtain⟨aS,h1,h2⟩:=hv;rw[GS];exact⟨aS,h1,bm.ok hR hw h2⟩
 | _,_,_,.cq hw,hv=>by rw[VS] at hv;obtain⟨aS,h1,h2⟩:=hv;rw[GS];exact⟨aS,h1,bm.ok hR hw h2⟩
 | _,_,_,.fn hw1 hw2,hv=>by rw[VS] at hv;obtain⟨xs,ys,h1,h2,h3⟩:=hv;rw[GS];exact⟨xs,ys,h1,bm.ok hR hw1 h2,bm.ok hR hw2 h3⟩
 | _,_,_,.iface hw,hv=>by rw[VS] at hv;obtain⟨y,h1,h2⟩:=hv;rw[GS];exact⟨y,h1,Wk.ok hR hw h2⟩
def bm.ok(hR:RS θ ρ0 ρ h0 h S):∀{vs ws:List SV} {xs:List AV},bm S vs ws->da θ ρ vs xs->kn (pq θ ρ h S) ws xs
 | _,_,_,.nil,hv=>by rw[bj] at hv;rw[e7];exact hv
 | _,_,_,.cons h1 h2,hv=>by
  rw[aM] at hv;obtain⟨a,r,rfl,k1,k2⟩:=hv;rw[dS];exact⟨a,r,rfl,Wk.ok hR h1 k1,bm.ok hR h2 k2⟩
end
def RS.Eh(hR:RS θ ρ0 ρ h0 h S):RS θ ρ0 ρ h0 h []:=⟨hR.ok,hR.nx,hR.ob,hR.fm,hR.lw,hR.ln,λo so h=>by simp at h,λo o' so so' _ h=>by simp at h,λid ob hi=>⟨(hR.row id ob hi).1,(hR.row id ob hi).2.1,λo so h=>by simp at h⟩,hR.mP⟩
def AN:pq θ ρ h []=ρ:=by
 funext id;unfold pq
 cases hr:ρ id with
 | some ob=>rfl
 | none=>simp only;rw[ut];rintro⟨o,so,h,_⟩;simp at h
def N4(ρ:kG)(h:H):Prop:=∀id ob,ρ id=some ob->id<h.next/\h.aU.get id=some ob
def UJ(h:H)(ρ ρ':kG)(h':H):Prop:=∀id ob,ρ' id=some ob->ρ id=some ob\/(h.next<=id/\id<h'.next/\h'.aU.get id=some ob)
def qm(hR:RS θ ρ0 ρ h0 h S):N4 (pq θ ρ h S) h:=by
 intro id ob hi;unfold pq at hi
 cases hr:ρ id with
 | some ob'=>rw[hr] at hi;cases hi;exact⟨(hR.row id _ hr).1,(hR.row id _ hr).2.1⟩
 | none=>
  rw[hr] at hi;simp only at hi;split at hi
  ·rename_i hex;obtain⟨o,so,h1,h2,rfl⟩:=hex;obtain⟨⟨k1,k2,k3,_⟩,_⟩:=hR.obj o so h1 h2;exact⟨by rcases k1 with e | e<;>omega,hi⟩
  ·cases hi
def PC(P:Program)(g:FuncId)(args:List SV)(Q:SV->Prop):Prop:=∀ρ h avs,N4 ρ h->kn ρ args avs->
 ef P (.func g) avs h (λv h'=>∃r ρ',Q r/\Over h.next h h'/\UJ h ρ ρ' h'/\GS ρ' r v)
mutual
def wZ:SV->Bool
 | .any=>true
 | .a _=>true
 | .ag cs=>I8 cs
 | .cq cs=>I8 cs
 | _=>false
def I8:List SV->Bool
 | []=>true
 | d::ds=>wZ d&&I8 ds
end
mutual
def GS.flat{ρ':kG}:∀{r:SV} {x:AV},wZ r=true->GS ρ' r x->VS θ ρ r x
 | .any,_,_,_=>by rw[VS];trivial
 | .a v,x,_,hg=>by rw[GS] at hg;rw[VS];exact hg
 | .ag cs,x,hf,hg=>by rw[wZ] at hf;rw[GS] at hg;obtain⟨aS,h1,h2⟩:=hg;rw[VS];exact⟨aS,h1,kn.flat hf h2⟩
 | .cq cs,x,hf,hg=>by rw[wZ] at hf;rw[GS] at hg;obtain⟨aS,h1,h2⟩:=hg;rw[VS];exact⟨aS,h1,kn.flat hf h2⟩
 | .sl _ _ _,_,hf,_=>by simp[wZ] at hf
 | .im _ _,_,hf,_=>by simp[wZ] at hf
 | .ip _,_,hf,_=>by simp[wZ] at hf
 | .ptr _ _,_,hf,_=>by simp[wZ] at hf
 | .map _,_,hf,_=>by simp[wZ] at hf
 | .buf _ _ _ _,_,hf,_=>by simp[wZ] at hf
 | .sub _ _ _ _ _,_,hf,_=>by simp[wZ] at hf
 | .e0 _,_,hf,_=>by simp[wZ] at hf
 | .fn _ _ _,_,hf,_=>by simp[wZ] at hf
 | .iface _ _,_,hf,_=>by simp[wZ] at hf
def kn.flat{ρ':kG}:∀{rs:List SV} {xs:List AV},I8 rs=true->kn ρ' rs xs->da θ ρ rs xs
 | [],xs,_,hg=>by rw[e7] at hg;rw[bj];exact hg
 | d::ds,xs,hf,hg=>by
  rw[I8,ac] at hf;rw[dS] at hg;obtain⟨a,r,rfl,h1,h2⟩:=hg;rw[aM];exact⟨a,r,rfl,GS.flat hf.1 h1,kn.flat hf.2 h2⟩
end
def ja(P:Program)(f:Fm)(c:Call):Option (FuncId×List SV):=match c.callee with
 | .value x=>match gf f x with
  | some (.fn g first cap)=>(qt f c.args.toList).map λxs=>(g,(first++xs)++cap)
  | _=>none
 | .invoke r name=>match gf f r with
  | some (.iface t v)=>(jw P t name).bind λg=>(qt f c.args.toList).map λxs=>(g,v::xs)
  | _=>none
 | .builtin _=>none
def yZ{f:Fm}{af:Nat->AV}{n:Nat}{wv:Nat->AV}(hF:FR θ ρ (aP f) af n wv){c:Call}{g:FuncId}{vs:List SV}(hc:ja P f c=some (g,vs)):∃xs cap,pQ P (eB af n) c=some (.func g,xs,cap)/\da θ ρ vs (xs++cap):=by
 unfold ja at hc;unfold pQ;split at hc
 ·rename_i x hx;rw[hx];simp only;split at hc
  ·rename_i g' first cap hv
   obtain⟨xs,hxs,e⟩:=au hc;cases e;obtain⟨a,ha,ka⟩:=bL hF hv;rw[VS] at ka;obtain⟨fs,cs,rfl,k1,k2⟩:=ka;obtain⟨aS,hs,ks⟩:=mD hF hxs;rw[ha];simp only;rw[hs];exact⟨fs++aS,cs,rfl,(k1.app ks).app k2⟩
  ·cases hc
 ·rename_i r name hx;rw[hx];simp only;split at hc
  ·rename_i t v hv;obtain⟨g',hg,hc⟩:=t8 hc;obtain⟨xs,hxs,e⟩:=au hc;cases e;obtain⟨a,ha,ka⟩:=bL hF hv;rw[VS] at ka;obtain⟨y,rfl,k1⟩:=ka;obtain⟨aS,hs,ks⟩:=mD hF hxs;rw[ha];simp only;rw[hg,m7,hs];refine⟨y::aS,[],rfl,?_⟩;rw[List.append_nil,aM];exact⟨y,aS,rfl,k1,ks⟩
  ·cases hc
 ·cases hc
def nH.mono{ρ':kG}{h':H}{L:Loc}{so:SO}(hx:nH θ ρ h L so)(hm:∀id ob,ρ id=some ob->ρ' id=some ob)(ho:h'.aU.get L.id=h.aU.get L.id)(hf:h'.dF.get L.bQ=h.dF.get L.bQ):nH θ ρ' h' L so:=by
 cases so with
 | cells cs=>obtain⟨aS,h1,h2,h3⟩:=hx;exact⟨aS,by rw[ho];exact h1,h2.mono hm,by rw[hf];exact h3⟩
 | map ks vs b=>obtain⟨l,c,h1,h2,h3⟩:=hx;exact⟨l,c,by rw[ho];exact h1,h2,h3.mono hm⟩
 | iter m bs c pos=>obtain⟨j9,h1,h2⟩:=hx;exact⟨j9,h1.mono hm,by rw[ho];exact h2⟩
 | pI ks vs bs c pos=>obtain⟨j9,l,h1,h2,h3,h4⟩:=hx;exact⟨j9,l,hm _ _ h1,h2,h3.mono hm,by rw[ho];exact h4⟩
 | gone=>trivial
 | loop c ls p f=>
  obtain⟨h1,h2,h3⟩:=hx;exact⟨h1,by rw[ho];exact h2,λi hi=>(h3 i hi).mono hm⟩
 | nd N=>exact⟨hx.1,by rw[ho];exact hx.2⟩
def Hr(h:H)(ρ ρ':kG):kG:=λid=>if id<h.next then ρ id else ρ' id
def RS.call{ρ':kG}{h':H}(hR:RS θ ρ0 ρ h0 h S)(ho:Over h.next h h')(hn:UJ h ρ ρ' h'):RS θ ρ0 (Hr h ρ ρ') h0 h' S/\(∀id ob,ρ id=some ob->Hr h ρ ρ' id=some ob)/\∀id ob,ρ' id=some ob->Hr h ρ ρ' id=some ob:=by
 have hold:∀id ob,ρ id=some ob->Hr h ρ ρ' id=some ob:=by
  intro id ob hi;unfold Hr;rw[un (hR.row id ob hi).1];exact hi
 have hlw:h'.low=h.low:=ho.low hR.ln;have hpr:∀j,h0.pr j->j<h.next:=λj hj=>aj (hR.ok.pr j hj) hR.nx;have hpf:∀j,h0.pf j->j<h.next:=λj hj=>aj (hR.ok.pf j hj) hR.nx;refine⟨⟨hR.ok,a8 hR.nx ho.next,λj hj=>(ho.aU j (hpr j hj)).trans (hR.ob j hj),λj hj=>(ho.dF j (hpf j hj)).trans (hR.fm j hj),by rw[hlw];exact hR.lw,by rw[hlw];exact a8 hR.ln ho.next,?_,hR.sep,?_,?_⟩,hold,?_⟩
 ·intro o so h1 h2;obtain⟨k,k2⟩:=hR.obj o so h1 h2;refine⟨k.mono ho.next,?_⟩
  have hid:(θ o).id<h.next:=by rcases k.e with e | e<;>rw[e];exact k.x.2;exact k.y.2
  exact k2.mono hold (ho.aU _ hid) (ho.dF _ k.f.2)
 ·intro id ob hi;unfold Hr at hi;split at hi
  ·rename_i hlt;obtain⟨r1,r2,r3⟩:=hR.row id ob hi;exact⟨aj r1 ho.next,by rw[ho.aU id r1];exact r2,r3⟩
  ·rename_i hlt
   rcases hn id ob hi with e | ⟨e1,e2,e3⟩
   ·exact ul (hR.row id ob e).1 hlt
   ·refine⟨e2,e3,λo so h1 h2=>?_⟩;obtain⟨k,_⟩:=hR.obj o so h1 h2;have:=k.x.2;have:=k.y.2;omega
 ·intro id ob hi;unfold Hr at hi;split at hi
  ·exact hR.mP id ob hi
  ·exact .inr (λhj=>by have:=hpr id hj;omega)
 ·intro id ob hi;unfold Hr;split
  ·rename_i hlt
   rcases hn id ob hi with e | ⟨e1,_⟩
   ·exact e
   ·omega
  ·exact hi
def FR.mono{ρ':kG}{f:Nat->SV}{af:Nat->AV}{n:Nat}{wv:Nat->AV}(hF:FR θ ρ f af n wv)(hm:∀id ob,ρ id=some ob->ρ' id=some ob):FR θ ρ' f af n wv:=⟨λi=>(hF.v i).mono hm,hF.u⟩
def aR.call{ro:Option Nat}{all:List Oper}{o:Oper}{l:List Oper}{f:Fm}{n:Nat}{ds:List kr}{K:eR->Prop}{d:Nat}{c:Call}{g:FuncId}{vs ws:List SV}{Q:SV->Prop}(hop:o.op=.call c)(hdst:o.dst=some d)(hw:vC all f n o=some true)(hdy:gi (.call c)=true)(hd:blt d n=true)
 (hc:ja P f c=some (g,vs)) (hq:PC P g ws Q) (hwk:bm S vs ws) (hfl:(∀r,Q r->wZ r=true)\/bm [] vs ws) (hk:∀r,Q r->aR P ro all l ⟨(d,r)::f,n,S,ds⟩ K):aR P ro all (o::l) ⟨f,n,S,ds⟩ K:=by
 rintro ρ0 h0 ⟨af,n',h,ds'⟩ ⟨rfl,rfl,θ,ρ,hR,hF⟩;obtain⟨xs,cap,h1,h2⟩:=yZ hF hc
 rcases hfl with hfl | hfl
 ·refine .c hop hdst (dr hF hw) hdy hd h1 rfl (hq _ _ _ (qm hR) (hwk.ok hR h2)) ?_;rintro v h' ⟨r,ρ',k1,k2,k3,k4⟩;obtain⟨j1,j2,_⟩:=hR.call (ρ':=λ_=>none) k2 (λid ob hi=>by cases hi);exact hk r k1 ρ0 h0 _ ⟨rfl,rfl,θ,_,j1,(hF.mono j2).put (gp hd) (k4.flat (hfl r k1))⟩
 ·have:=hfl.ok hR.Eh h2;rw[AN] at this;refine .c hop hdst (dr hF hw) hdy hd h1 rfl (hq _ _ _ (λid ob hi=>⟨(hR.row id ob hi).1,(hR.row id ob hi).2.1⟩) this) ?_;rintro v h' ⟨r,ρ',k1,k2,k3,k4⟩;obtain⟨j1,j2,j3⟩:=hR.call k2 k3;exact hk r k1 ρ0 h0 _ ⟨rfl,rfl,θ,_,j1,(hF.mono j2).put (gp hd) ((k4.mono j3).vs)⟩
end
def lA:Nat->List SV->Fm
 | _,[]=>[]
 | i,v::vs=>(i,v)::lA (i+1) vs
def tL:∀(vs:List SV) (i j:Nat),aP (lA i vs) j=if i<=j then (match vs[j-i]? with | some v=>v | none=>.any) else .any
 | [],i,j=>by simp[lA,aP]
 | v::vs,i,j=>by
  show(if i=j then v else aP (lA (i+1) vs) j)=_;rw[tL vs (i+1) j];by_cases h:i=j
  ·subst h;simp
  ·rw[ut h];by_cases h2:i<=j
   ·rw[un ii,un h2];obtain⟨k,hk⟩:∃k,j-i=k+1:=⟨j-i-1,by omega⟩;rw[hk,ap,show j-(i+1)=k by omega]
   ·rw[ut ii,ut h2]
def po(P:Program)(f:Fm)(S:List SO):List ResultVar->Option (List SV)
 | []=>some []
 | .tmp i::l=>(gf f (.tmp i)).bind λv=>(po P f S l).map λb=>v::b
 | .cell a t::l=>(gf f (.tmp a)).bind λx=>(Av P S t x).bind λv=>(po P f S l).map λb=>v::b
def eI:List SV->SV
 | [v]=>v
 | vs=>.cq vs
def Cb(P:Program)(fn:Func)(Q:SV->Prop):Ex->eR->Prop:=λe st=>kM e=true/\st.ds=[]/\∃vs r,po P st.f st.S fn.results.toList=some vs/\Wk st.S (eI vs) r/\Q r
section
variable {P:Program}
def uM{θ:Nat->Loc}{ρ ρ0:kG}{h0:En}{h:H}{S:List SO}(hR:RS θ ρ0 ρ h0 h S){f:Fm}{af:Nat->AV}{n:Nat}{wv:Nat->AV}(hF:FR θ ρ (aP f) af n wv):∀{l:List ResultVar} {vs:List SV},po P f S l=some vs->∃aS,(l.mapM λ
 | ResultVar.tmp i=>ev (eB af n) (.tmp i)
 | ResultVar.cell a tt=>match ev (eB af n) (.tmp a) with
  | some (.ptr (some (id,off)))=>h.load P tt id off
  | _=>none)=some aS/\da θ ρ vs aS
 | [],vs,hv=>by
  simp only[po,qr] at hv;subst hv;exact⟨[],rfl,by rw[bj]⟩
 | .tmp i::l,vs,hv=>by
  rw[po] at hv;obtain⟨v0,hv0,hv⟩:=t8 hv;obtain⟨b,hb,rfl⟩:=au hv;obtain⟨aS,h1,h2⟩:=uM hR hF hb;obtain⟨a,ha,ka⟩:=bL hF (x:=.tmp i) hv0;refine⟨a::aS,?_,by rw[aM];exact⟨a,aS,rfl,ka,h2⟩⟩;rw[dd];simp only[ha,h1];rfl
 | .cell a t::l,vs,hv=>by
  rw[po] at hv;obtain⟨v0,hv0,hv⟩:=t8 hv;obtain⟨v,hv1,hv⟩:=t8 hv;obtain⟨b,hb,rfl⟩:=au hv;obtain⟨aS,h1,h2⟩:=uM hR hF hb;obtain⟨p,hp,kp⟩:=bL hF (x:=.tmp a) hv0;obtain⟨y,hy,ky⟩:=GO hR kp hv1;refine⟨y::aS,?_,by rw[aM];exact⟨y,aS,rfl,ky,h2⟩⟩;rw[dd];simp only[hp,h1];unfold D6 at hy;split at hy
  ·rename_i he;cases he;simp only[hy];rfl
  ·cases hy
def QO:List AV->AV
 | [v]=>v
 | vs=>.cq vs
def LM{θ:Nat->Loc}{ρ:kG}{vs:List SV}{aS:List AV}(h:da θ ρ vs aS):VS θ ρ (eI vs) (QO aS):=by
 match vs,h with
 | [],h=>rw[bj] at h;subst h;simp only[eI];rw[VS];exact⟨[],rfl,by rw[bj]⟩
 | [v],h=>
  rw[aM] at h;obtain⟨a,r,rfl,h1,h2⟩:=h;rw[bj] at h2;subst h2;exact h1
 | v::w::vs,h=>
  have h':=h;rw[aM] at h;obtain⟨a,r,rfl,h1,h2⟩:=h;rw[aM] at h2;obtain⟨b,r2,rfl,h3,h4⟩:=h2;simp only[eI];rw[VS];exact⟨_,rfl,h'⟩
end
section
variable {θ:Nat->Loc} {ρ ρ0:kG} {P:Program} {h0:En} {h:H} {S S':List SO}
def vE(f:Fm):Fm->Prop
 | []=>True
 | (i,v)::l=>aP f i=v/\vE f l
def Dt(S:List SO):List SO->Nat->Prop
 | [],_=>True
 | s::l,k=>(s=.gone\/S[k]?=some s)/\Dt S l (k+1)
def Dt.get:∀{l:List SO} {k:Nat},Dt S l k->∀{o:Nat} {so:SO},l[o]?=some so->so≠.gone->S[k+o]?=some so
 | [],_,_,o,so,h,_=>by simp at h
 | s::l,k,hs,o,so,h,hg=>by
  obtain⟨h1,h2⟩:=hs
  cases o with
  | zero=>
   simp only[ax,qr] at h;subst h;exact h1.resolve_left hg
  | succ o=>
   simp only[ap] at h;have:=Dt.get h2 h hg;rw[show k+(o+1)=k+1+o by omega];exact this
def RS.sub(hR:RS θ ρ0 ρ h0 h S)(hs:∀(o:Nat) (so:SO),S'[o]?=some so->so≠.gone->S[o]?=some so):RS θ ρ0 ρ h0 h S':=
 ⟨hR.ok,hR.nx,hR.ob,hR.fm,hR.lw,hR.ln,λo so h1 h2=>hR.obj o so (hs o so h1 h2) h2,λo o' so so' h h1 h2 h3 h4=>hR.sep o o' so so' h (hs o so h1 h2) h2 (hs o' so' h3 h4) h4,
  λid ob hi=>⟨(hR.row id ob hi).1,(hR.row id ob hi).2.1,λo so h1 h2=>(hR.row id ob hi).2.2 o so (hs o so h1 h2) h2⟩,hR.mP⟩
def vE.get{f:Fm}:∀{f':Fm},vE f f'->∀i,aP f' i=aP f i\/aP f' i=.any
 | [],_,i=>.inr rfl
 | (d,v)::l,h,i=>by
  obtain⟨h1,h2⟩:=h;show(if d=i then v else aP l i)=_\/(if d=i then v else aP l i)=_;by_cases e:d=i
  ·subst e;rw[un rfl];exact .inl h1.symm
  ·rw[ut e];exact vE.get h2 i
def Fg.less{f f':Fm}{n:Nat}{ds:List kr}(hf:vE f f')(hs:Dt S S' 0):Fg ⟨f,n,S,ds⟩ ⟨f',n,S',ds⟩:=by
 refine⟨rfl,?_⟩;rintro ρ0 h0 ⟨af,n',h,ds'⟩ ⟨rfl,rfl,θ,ρ,hR,hF⟩;refine⟨rfl,rfl,θ,ρ,hR.sub λo so h1 h2=>by have:=hs.get h1 h2;rw[a9] at this;exact this,λi=>?_,hF.u⟩
 rcases hf.get i with e | e
 ·rw[e];exact hF.v i
 ·rw[e,VS];trivial
def mf(o:Nat)(so:SO):List SO:=dv o .gone++[so]
def sb{o p:Nat}{so s:SO}(h:(mf o so)[p]?=some s)(hg:s≠.gone):p=o/\s=so:=by
 unfold mf at h;rw[cn] at h;split at h
 ·rename_i hl;rw[cl] at hl;rw[List.getElem?_replicate,un hl] at h;cases h;exact ul rfl hg
 ·rename_i hl;rw[cl] at hl h
  have:p-o=0:=by
   apply Decidable.byContradiction;intro hn;rw[a6 (by simp;omega)] at h;cases h
  rw[this] at h;simp only[ax,qr] at h;exact⟨by omega,h.symm⟩
def yN(S:List SO)(f:Fm):Fm->Prop
 | []=>True
 | (i,v)::l=>(aP f i=v\/Wk S (aP f i) v)/\yN S f l
def yN.get{f:Fm}:∀{f':Fm},yN S f f'->∀i,aP f' i=aP f i\/Wk S (aP f i) (aP f' i)
 | [],_,i=>.inr (.any _)
 | (d,v)::l,h,i=>by
  obtain⟨h1,h2⟩:=h;show(if d=i then v else aP l i)=_\/Wk S _ (if d=i then v else aP l i);by_cases e:d=i
  ·subst e;rw[un rfl]
   rcases h1 with h1 | h1
   ·exact .inl h1.symm
   ·exact .inr h1
  ·rw[ut e];exact yN.get h2 i
def Fg.freeze{f f':Fm}{n:Nat}{ds:List kr}(o:Nat){so:SO}(hS:S[o]?=some so)(hg:so≠.gone)(hf:yN (mf o so) f f'):Fg ⟨f,n,S,ds⟩ ⟨f',n,S.set o .gone,ds⟩:=by
 refine⟨rfl,?_⟩;rintro ρ0 h0 ⟨af,n',h,ds'⟩ ⟨rfl,rfl,θ,ρ,hR,hF⟩
 have hsub:∀(p:Nat) (s:SO),(mf o so)[p]?=some s->s≠.gone->S[p]?=some s:=by
  intro p s h1 h2;obtain⟨rfl,rfl⟩:=sb h1 h2;exact hS
 have hR1:=hR.sub hsub
 have hset:∀(p:Nat) (s:SO),(S.set o .gone)[p]?=some s->s≠.gone->S[p]?=some s/\p≠o:=by
  intro p s h1 h2;by_cases hp:p=o
  ·subst hp;rw[ay (bx hS)] at h1;cases h1;exact ul rfl h2
  ·rw[a0 (λe=>hp e.symm)] at h1;exact⟨h1,hp⟩
 have hR2:=hR.sub (S':=S.set o .gone) λp s h1 h2=>(hset p s h1 h2).1;have hm:∀id ob,ρ id=some ob->pq θ ρ h (mf o so) id=some ob:=λid ob hi=>rk hi
 have key:∀id ob,pq θ ρ h (mf o so) id=some ob->ρ id=some ob\/id=(θ o).id:=by
  intro id ob hi;unfold pq at hi
  cases hr:ρ id with
  | some ob'=>rw[hr] at hi;exact .inl hi
  | none=>
   rw[hr] at hi;simp only at hi;split at hi
   ·rename_i hex;obtain⟨p,s,q1,q2,rfl⟩:=hex;obtain⟨rfl,_⟩:=sb q1 q2;exact .inr rfl
   ·cases hi
 refine⟨rfl,rfl,θ,pq θ ρ h (mf o so),⟨hR2.ok,hR2.nx,hR2.ob,hR2.fm,hR2.lw,hR2.ln,?_,hR2.sep,?_,?_⟩,λi=>?_,hF.u⟩
 ·intro p s h1 h2;obtain⟨k,k2⟩:=hR2.obj p s h1 h2;exact⟨k,k2.mono hm rfl rfl⟩
 ·intro id ob hi;obtain⟨r1,r2⟩:=qm hR1 id ob hi;refine⟨r1,r2,λp s h1 h2=>?_⟩
  rcases key id ob hi with e | e
  ·exact(hR2.row id ob e).2.2 p s h1 h2
  ·subst e;obtain⟨g1,g2⟩:=hset p s h1 h2;have sp:=hR.sep p o s so g2 g1 h2 hS hg;obtain⟨k,_⟩:=hR.obj o so hS hg
   rcases k.e with e | e<;>rw[e]
   ·exact⟨sp.xx.symm,sp.yx.symm⟩
   ·exact⟨sp.xy.symm,sp.yy.symm⟩
 ·intro id ob hi
  rcases key id ob hi with e | e
  ·exact hR.mP id ob e
  ·subst e;obtain⟨k,_⟩:=hR.obj o so hS hg;exact .inr (by rcases k.e with e | e<;>rw[e];exact k.x.1;exact k.y.1)
 ·rcases hf.get i with e | e
  ·rw[e];exact(hF.v i).mono hm
  ·exact(e.ok hR1 (hF.v i)).vs
mutual
def mN:SV->Bool
 | .a _=>true
 | .sl _ _ _=>true
 | .im _ _=>true
 | .ip _=>true
 | .any=>true
 | .e0 _=>true
 | .ag cs=>bZ cs
 | .cq cs=>bZ cs
 | .fn _ a b=>bZ a&&bZ b
 | .iface _ v=>mN v
 | _=>false
def bZ:List SV->Bool
 | []=>true
 | d::ds=>mN d&&bZ ds
end
mutual
def Wk.refl:∀{v:SV},mN v=true->Wk S v v
 | .a v,_=>.a v
 | .sl n e cs,_=>.sl n e cs
 | .im ks vs,_=>.im ks vs
 | .ip cs,_=>.ip cs
 | .any,_=>.any _
 | .e0 e,_=>.e0 e
 | .sub _ _ _ _ _,h=>by simp[mN] at h
 | .ag cs,h=>.ag (bm.refl (by rw[mN] at h;exact h))
 | .cq cs,h=>.cq (bm.refl (by rw[mN] at h;exact h))
 | .fn g a b,h=>by rw[mN,ac] at h;exact .fn (bm.refl h.1) (bm.refl h.2)
 | .iface t v,h=>.iface (Wk.refl (by rw[mN] at h;exact h))
 | .ptr _ _,h=>by simp[mN] at h
 | .map _,h=>by simp[mN] at h
 | .buf _ _ _ _,h=>by simp[mN] at h
def bm.refl:∀{vs:List SV},bZ vs=true->bm S vs vs
 | [],_=>.nil
 | d::ds,h=>by rw[bZ,ac] at h;exact .cons (Wk.refl h.1) (bm.refl h.2)
end
def bm.app:∀{a b c d:List SV},bm S a c->bm S b d->bm S (a++b) (c++d)
 | _,_,_,_,.nil,h=>h
 | _,_,_,_,.cons h1 h2,h=>.cons h1 (bm.app h2 h)
end
end
end Go.Ev
namespace Go.Proofs
open Go.Ev
section
variable (P:Program) (t:Nat)
abbrev fS(n:Nat)(z:List AV):Prop:=Iv P t=some (n,true)/\dm P t=some (.agg z)/\Rf P t=some none/\S5 P t=none/\pP P t=true
abbrev fL(e n:Nat):Prop:=Iv P t=some (1,false)/\dm P t=some (.slice none 0 0 (some 0))/\I1 P t=some (e,n)/\S5 P t=none/\jk P t=.sl/\pP P t=true
abbrev fA(n k e s:Nat)(z:AV):Prop:=Iv P t=some (n,true)/\dm P t=some (.agg (dv k z))/\S5 P t=some (k,e,s)/\Rf P t=some (some s)/\jk P t=.other
abbrev fM(k e:Nat):Prop:=Iv P t=some (1,false)/\dm P t=some (.map none)/\dy P t=some (k,e)/\jk P t=.map
abbrev fT:Prop:=Iv P t=some (1,false)/\dm P t=some (.str [])/\jk P t=.str/\pP P t=true
abbrev fI(k:IntKind):Prop:=Iv P t=some (1,false)/\dm P t=some (.int k 0)/\pP P t=true/\jk P t=.other/\isInt P t=true
abbrev fB(z:AV):Prop:=Iv P t=some (1,false)/\dm P t=some z/\pP P t=true
end
abbrev k0(P:Program)(t i a b c:Nat):Prop:=I9 P t i=some (a,b,c)
abbrev k1(P:Program)(t a b c:Nat):Prop:=k0 P t 0 a b c
abbrev k2(P:Program)(t a b c d e f:Nat):Prop:=k1 P t a b c/\k0 P t 1 d e f
abbrev k3(P:Program)(t a b c d e f g h i:Nat):Prop:=k2 P t a b c d e f/\k0 P t 2 g h i
abbrev k4(P:Program)(t a b c d e f g h i j k l:Nat):Prop:=k3 P t a b c d e f g h i/\k0 P t 3 j k l
abbrev k5(P:Program)(t a b c d e f g h i j k l m n o:Nat):Prop:=k4 P t a b c d e f g h i j k l/\k0 P t 4 m n o
abbrev k6(P:Program)(t a b c d e f g h i j k l m n o p q r:Nat):Prop:=k5 P t a b c d e f g h i j k l m n o/\k0 P t 5 p q r
abbrev k7(P:Program)(t a b c d e f g h i j k l m n o p q r s u v:Nat):Prop:=k6 P t a b c d e f g h i j k l m n o p q r/\k0 P t 6 s u v
abbrev k8(P:Program)(t a b c d e f g h i j k l m n o p q r s u v w x y:Nat):Prop:=k7 P t a b c d e f g h i j k l m n o p q r s u v/\k0 P t 7 w x y
abbrev k9(P:Program)(t a b c d e f g h i j k l m n o p q r s u v w x y z a1 b1:Nat):Prop:=k8 P t a b c d e f g h i j k l m n o p q r s u v w x y/\k0 P t 8 z a1 b1
abbrev W3(P:Program)(t a b c d e f g h i j k l m n o p q r s u v w x y z a1 b1 c1 d1 e1:Nat):Prop:=k9 P t a b c d e f g h i j k l m n o p q r s u v w x y z a1 b1/\k0 P t 9 c1 d1 e1
abbrev W4(P:Program)(t a b c d e f g h i j k l m n o p q r s u v w x y z a1 b1 c1 d1 e1 f1 g1 h1:Nat):Prop:=W3 P t a b c d e f g h i j k l m n o p q r s u v w x y z a1 b1 c1 d1 e1/\k0 P t 10 f1 g1 h1
abbrev o0(P:Program)(t:Nat):Prop:=Iv P t=some (1,false)
abbrev o9(P:Program)(a b c d e f g h i j k l:Nat):Prop:=o0 P a/\o0 P b/\o0 P c/\o0 P d/\o0 P e/\o0 P f/\o0 P g/\o0 P h/\o0 P i/\o0 P j/\o0 P k/\o0 P l
abbrev s0(P:Program)(t:Nat):Prop:=fS P t 1 [.slice none 0 0 (some 0)]/\k1 P t 0 22 1
abbrev s1(P:Program)(t:Nat):Prop:=fS P t 3 [.int .i64 0,.int .i64 0,.slice none 0 0 (some 0)]/\k3 P t 0 3 1 1 3 1 2 25 1
abbrev s2(P:Program)(t:Nat):Prop:=fS P t 4 [.slice none 0 0 (some 0),.int .i64 0,.int .i64 0,.slice none 0 0 (some 0)]/\k2 P t 0 24 1 1 27 3
abbrev s3(P:Program)(t:Nat):Prop:=fS P t 6 [.slice none 0 0 (some 0),.slice none 0 0 (some 0),.slice none 0 0 (some 0),.slice none 0 0 (some 0),.slice none 0 0 (some 0),.slice none 0 0 (some 0)]/\k6 P t 0 30 1 1 31 1 2 32 1 3 33 1 4 30 1 5 34 1
abbrev s4(P:Program)(t:Nat):Prop:=fS P t 1 [.slice none 0 0 (some 0)]/\k1 P t 0 44 1
abbrev s5(P:Program)(t:Nat):Prop:=fS P t 2 [.int .i64 0,.int .i64 0]/\k2 P t 0 3 1 1 3 1
abbrev s6(P:Program)(t:Nat):Prop:=fS P t 6 [.int .i64 0,.int .i64 0,.int .i64 0,.int .i64 0,.int .i64 0,.int .i64 0]/\k3 P t 0 52 2 2 52 2 4 52 2
abbrev s7(P:Program)(t:Nat):Prop:=fS P t 14 [.str [],.str [],.str [],.str [],.int .i64 0,.int .i64 0,.bool false,.slice none 0 0 (some 0),.int .i64 0,.int .i64 0,.int .i64 0,.int .i64 0,.int .i64 0,.int .i64 0]/\k9 P t 0 9 1 1 9 1 2 9 1 3 9 1 4 3 1 5 3 1 6 4 1 7 50 1 8 54 6
abbrev s8(P:Program)(t:Nat):Prop:=fS P t 3 [.str [],.bool false,.slice none 0 0 (some 0)]/\k3 P t 0 9 1 1 4 1 2 59 1
abbrev s9(P:Program)(t:Nat):Prop:=fS P t 3 [.int .i64 0,.str [],.str []]/\k3 P t 0 3 1 1 9 1 2 9 1
abbrev Wt(P:Program)(t:Nat):Prop:=fS P t 6 [.int .i64 0,.str [],.str [],.int .i64 0,.int .i64 0,.slice none 0 0 (some 0)]/\k6 P t 0 3 1 1 9 1 2 9 1 3 3 1 4 3 1 5 69 1
abbrev Wu(P:Program)(t:Nat):Prop:=fS P t 8 [.str [],.str [],.int .i64 0,.str [],.str [],.int .i64 0,.int .i64 0,.slice none 0 0 (some 0)]/\k3 P t 0 9 1 1 9 1 2 71 6
abbrev Wv(P:Program)(t:Nat):Prop:=fS P t 4 [.str [],.str [],.slice none 0 0 (some 0),.slice none 0 0 (some 0)]/\k4 P t 0 9 1 1 9 1 2 80 1 3 80 1
abbrev Ww(P:Program)(t:Nat):Prop:=fS P t 14 [.int .i64 0,.int .i64 0,.str [],.str [],.str [],.str [],.str [],.str [],.int .i64 0,.int .i64 0,.int .i64 0,.int .i64 0,.int .i64 0,.int .i64 0]/\k9 P t 0 3 1 1 3 1 2 9 1 3 9 1 4 9 1 5 9 1 6 9 1 7 9 1 8 88 6
abbrev VG(P:Program)(t:Nat):Prop:=fS P t 3 [.str [],.str [],.int .i64 0]/\k3 P t 0 9 1 1 9 1 2 3 1
abbrev Wx(P:Program)(t:Nat):Prop:=fS P t 2 [.slice none 0 0 (some 0),.map none]/\k2 P t 0 44 1 1 118 1
abbrev Wy(P:Program)(t:Nat):Prop:=fS P t 2 [.slice none 0 0 (some 0),.int .i64 0]/\k2 P t 0 46 1 1 3 1
abbrev Wz(P:Program)(t:Nat):Prop:=fS P t 28 [.str [],.str [],.str [],.str [],.int .i64 0,.int .i64 0,.bool false,.slice none 0 0 (some 0),.int .i64 0,.int .i64 0,.int .i64 0,.int .i64 0,.int .i64 0,.int .i64 0,.str [],.str [],.str [],.str [],.int .i64 0,.int .i64 0,.bool false,.slice none 0 0 (some 0),.int .i64 0,.int .i64 0,.int .i64 0,.int .i64 0,.int .i64 0,.int .i64 0]/\k2 P t 0 56 14 14 56 14
abbrev WA(P:Program)(t:Nat):Prop:=fS P t 5 [.str [],.str [],.str [],.str [],.int .i64 0]/\k5 P t 0 9 1 1 9 1 2 9 1 3 9 1 4 3 1
abbrev WB(P:Program)(t:Nat):Prop:=fS P t 5 [.str [],.str [],.str [],.int .i64 0,.int .i64 0]/\k5 P t 0 9 1 1 9 1 2 9 1 3 3 1 4 3 1
abbrev WC(P:Program)(t:Nat):Prop:=fS P t 3 [.str [],.slice none 0 0 (some 0),.int .i64 0]/\k3 P t 0 9 1 1 66 1 2 3 1
abbrev VH(P:Program)(t:Nat):Prop:=fS P t 2 [.str [],.str []]/\k2 P t 0 9 1 1 9 1
abbrev WD(P:Program)(t:Nat):Prop:=fS P t 6 [.int .i64 0,.int .i64 0,.int .i64 0,.int .i64 0,.int .i64 0,.int .i64 0]/\k1 P t 0 88 6
abbrev WE(P:Program)(t:Nat):Prop:=fS P t 5 [.str [],.str [],.str [],.int .i64 0,.int .i64 0]/\k1 P t 0 153 5
abbrev WG(P:Program)(t:Nat):Prop:=fS P t 4 [.ptr none,.ptr none,.ptr none,.str []]/\k4 P t 0 17 1 1 17 1 2 17 1 3 9 1
abbrev WH(P:Program)(t:Nat):Prop:=fS P t 0 []/\k1 P t 0 357 0
abbrev WI(P:Program)(t:Nat):Prop:=fS P t 11 [.int .u64 0,.int .u64 0,.int .u32 0,.int .u8 0,.int .u8 0,.int .u8 0,.int .u8 0,.ep,.ptr none,.int .i32 0,.int .i32 0]/\W4 P t 0 12 1 1 12 1 2 281 1 3 361 1 4 5 1 5 5 1 6 362 1 7 363 1 8 364 1 9 365 1 10 366 1
abbrev WL(P:Program):Prop:=s0 P 23/\s0 P 24/\s1 P 26/\s1 P 27/\s2 P 28/\s2 P 29/\s3 P 35/\s3 P 36/\s4 P 45/\s4 P 46/\s5 P 51/\s5 P 52/\s6 P 53/\s6 P 54/\s6 P 87/\s6 P 88/\s7 P 55/\s7 P 56/\s8 P 60/\s8 P 61/\s9 P 64/\s9 P 65/\Wt P 70/\Wt P 71
def QI:WL bw:=by
 (repeat' apply bb)<;>(change _=_;kernel_rfl)
abbrev WM(P:Program):Prop:=Wu P 72/\Wu P 73/\Wv P 81/\Wv P 82/\Ww P 89/\Ww P 90/\VG P 95/\VG P 96/\VG P 136/\VG P 137/\Wx P 119/\Wx P 120/\Wy P 127/\Wy P 128/\Wz P 142/\Wz P 143/\WA P 146/\WA P 147/\WB P 152/\WB P 153/\WC P 154/\WC P 155/\VH P 197/\VH P 198
def QJ:WM bw:=by
 (repeat' apply bb)<;>(change _=_;kernel_rfl)
abbrev WN(P:Program):Prop:=VH P 247/\VH P 248/\WD P 202/\WD P 203/\WE P 226/\WE P 227/\WG P 355/\WG P 356/\WH P 358/\WH P 359/\WI P 367/\WI P 368/\o9 P 1 38 39 40 42 43 49 58 63 67 68 75/\o9 P 76 77 78 79 83 84 85 86 91 92 94 97/\o9 P 100 101 102 103 104 105 106 107 108 110 111 112/\o9 P 113 114 116 117 121 124 125 126 129 130 131 132/\o9 P 135 138 139 140 141 144 145 148 149 150 151 156/\o9 P 157 158 159 160 161 162 163 164 165 166 167 168/\o9 P 169 170 172 173 174 175 177 178 179 180 182 183/\o9 P 184 185 186 187 188 189 190 191 192 193 194 195/\o9 P 196 199 201 204 205 206 207 208 209 211 212 213/\o9 P 214 215 216 218 219 220 221 222 223 224 225 228/\o9 P 230 231 232 233 234 235 236 237 238 239 240 242/\o9 P 243 244 246 249 252 254 255 256 257 258 259 260
def QK:WN bw:=by
 (repeat' apply bb)<;>(change _=_;kernel_rfl)
abbrev WO(P:Program):Prop:=o9 P 261 262 263 264 265 266 267 268 269 270 272 275/\o9 P 276 277 278 279 280 282 284 285 286 289 290 291/\o9 P 292 293 294 295 296 297 298 299 300 301 302 303/\o9 P 304 305 306 307 308 309 311 312 313 314 315 316/\o9 P 317 319 320 321 323 324 325 326 327 328 330 331/\o9 P 332 333 334 335 336 337 338 339 340 341 343 346/\o9 P 347 348 349 350 351 352 353 354 360 363 369 371/\fI P 2 .i64/\fI P 3 .i64/\fB P 4 (.bool false)/\fI P 5 .u8/\fT P 9/\fI P 21 .i32/\fL P 22 61 3/\fL P 25 27 3/\fL P 30 73 8/\fL P 31 147 5/\fL P 32 153 5/\fL P 33 96 3/\fL P 34 82 4/\fL P 37 90 14/\fL P 41 65 3/\fL P 44 56 14/\fI P 47 .i64
def QL:WO bw:=by
 (repeat' apply bb)<;>(change _=_;kernel_rfl)
abbrev WQ(P:Program):Prop:=fL P 50 198 2/\fL P 59 155 3/\fL P 66 9 1/\fL P 69 71 6/\fI P 74 .i64/\fL P 80 3 1/\fM P 98 65 4/\fM P 99 65 4/\fB P 115 (.ptr none)/\fM P 118 9 3/\fM P 123 9 9/\fM P 133 9 4/\fM P 134 137 4/\fL P 200 52 2/\fI P 210 .u64/\fA P 241 256 256 5 1 (.int .u8 0)/\fM P 245 248 4/\fB P 250 (.ptr none)/\fA P 251 3 3 250 1 (.ptr none)/\fB P 253 (.ptr none)/\fI P 271 .i64/\fI P 273 .i64/\fI P 281 .u32/\fI P 283 .u64
def QM:WQ bw:=by
 (repeat' apply bb)<;>(change _=_;kernel_rfl)
abbrev WR(P:Program):Prop:=fM P 288 9 286/\fA P 310 8 8 9 1 (.str [])/\fI P 318 .u64/\fB P 322 (.ptr none)/\fL P 329 108 1/\fL P 342 271 1/\fB P 344 (.ptr none)/\fA P 357 0 0 16 1 (.ptr none)/\fI P 361 .u8/\fI P 362 .u8/\fB P 364 (.ptr none)/\fI P 365 .i32/\fI P 366 .i32
def QN:WR bw:=by
 (repeat' apply bb)<;>(change _=_;kernel_rfl)
def aH:WL bw/\WM bw/\WN bw/\WO bw/\WQ bw/\WR bw:=⟨QI,QJ,QK,QL,QM,QN⟩
end Go.Proofs
namespace Go.Ev
def y2{a b:Prop}(a1:a)(b1:b):a/\b:=⟨a1,b1⟩
def y3{a b c:Prop}(a1:a)(b1:b)(c1:c):a/\b/\c:=⟨a1,b1,c1⟩
def y4{a b c d:Prop}(a1:a)(b1:b)(c1:c)(d1:d):a/\b/\c/\d:=⟨a1,b1,c1,d1⟩
def y5{a b c d e:Prop}(a1:a)(b1:b)(c1:c)(d1:d)(e1:e):a/\b/\c/\d/\e:=⟨a1,b1,c1,d1,e1⟩
def y6{a b c d e f:Prop}(a1:a)(b1:b)(c1:c)(d1:d)(e1:e)(f1:f):a/\b/\c/\d/\e/\f:=⟨a1,b1,c1,d1,e1,f1⟩
def y7{a b c d e f g:Prop}(a1:a)(b1:b)(c1:c)(d1:d)(e1:e)(f1:f)(g1:g):a/\b/\c/\d/\e/\f/\g:=⟨a1,b1,c1,d1,e1,f1,g1⟩
def y8{a b c d e f g h:Prop}(a1:a)(b1:b)(c1:c)(d1:d)(e1:e)(f1:f)(g1:g)(h1:h):a/\b/\c/\d/\e/\f/\g/\h:=⟨a1,b1,c1,d1,e1,f1,g1,h1⟩
section
variable {P:Program} {f:Fm} {S:List SO} {o:Nat}
def mA(v:AV):names o (.a v)=false:=by rw[names];all_goals (intros;contradiction)
def G4(n e:Nat)(cs:List SV):names o (.sl n e cs)=false:=by rw[names];all_goals (intros;contradiction)
def G2(ks:List AV)(vs:List SV):names o (.im ks vs)=false:=by rw[names];all_goals (intros;contradiction)
def G3(cs:List SV):names o (.ip cs)=false:=by rw[names];all_goals (intros;contradiction)
def CK:names o .any=false:=by rw[names];all_goals (intros;contradiction)
def Rl(k:IntKind)(n:Int):cR (.a (.int k n))=some [.a (.int k n)]:=rfl
def Rm(s:List Nat):cR (.a (.str s))=some [.a (.str s)]:=rfl
def Rk(b:Bool):cR (.a (.bool b))=some [.a (.bool b)]:=rfl
def Ml(o:Option (Nat×Nat))(n e:Nat)(c:Option Nat):cR (.a (.slice o n e c))=some [.a (.slice o n e c)]:=rfl
def OD(n e:Nat)(cs:List SV):cR (.sl n e cs)=some [.sl n e cs]:=rfl
def OB(ks:List AV)(vs:List SV):cR (.im ks vs)=some [.im ks vs]:=rfl
def OC(cs:List SV):cR (.ip cs)=some [.ip cs]:=rfl
def IW(o off:Nat):cR (.ptr o off)=some [.ptr o off]:=rfl
def IV(o:Nat):cR (.map o)=some [.map o]:=rfl
def G1(e:Nat):names o (.e0 e)=false:=by rw[names];all_goals (intros;contradiction)
def Mq(o off n e:Nat)(c:Option Nat):cR (.sub o off n e c)=some [.sub o off n e c]:=rfl
def Oz(e:Nat):cR (.e0 e)=some [.e0 e]:=rfl
def Mo(o n e:Nat)(c:Option Nat):cR (.buf o n e c)=some [.buf o n e c]:=rfl
def Mp(g:FuncId)(a b:List SV):cR (.fn g a b)=some [.fn g a b]:=rfl
def OA(t:TypeId)(v:SV):cR (.iface t v)=some [.iface t v]:=rfl
def Sf(n e:Nat)(cs:List SV):fq (.sl n e cs)=true:=rfl
def Sc(ks:List AV)(vs:List SV):fq (.im ks vs)=true:=rfl
def Sd(cs:List SV):fq (.ip cs)=true:=rfl
def PJ(o off:Nat):fq (.ptr o off)=true:=rfl
def PI(o:Nat):fq (.map o)=true:=rfl
def PK(o off n e:Nat)(c:Option Nat):fq (.sub o off n e c)=true:=rfl
def R9(e:Nat):fq (.e0 e)=true:=rfl
def PH(o n e:Nat)(c:Option Nat):fq (.buf o n e c)=true:=rfl
def Sa(g:FuncId)(a b:List SV):fq (.fn g a b)=true:=rfl
def Sb(t:TypeId)(v:SV):fq (.iface t v)=true:=rfl
def Uc(k:IntKind)(n:Int):kq (.int k n)=true:=rfl
def Ud(s:List Nat):kq (.str s)=true:=rfl
def Ub(b:Bool):kq (.bool b)=true:=rfl
def R8(o:Option (Nat×Nat))(n e:Nat)(c:Option Nat):kq (.slice o n e c)=true:=rfl
def Vd(k:IntKind)(n:Int):ve (.int k n)=.a (.int k n):=rfl
def Ve(s:List Nat):ve (.str s)=.a (.str s):=rfl
def Vc(b:Bool):ve (.bool b)=.a (.bool b):=rfl
def Ur(o:Option (Nat×Nat))(n e:Nat)(c:Option Nat):ve (.slice o n e c)=.a (.slice o n e c):=rfl
def SK(o:Option (Nat×Nat)):ve (.ptr o)=.a (.ptr o):=rfl
def SJ(o:Option Nat):ve (.map o)=.a (.map o):=rfl
def Uq:ve .ep=.a .ep:=rfl
def bG(v w:SV)(l:List SV):eI (v::w::l)=.cq (v::w::l):=rfl
def Um(x:Operand)(aS:Array Operand)(ats:Array TypeId):dO P f S (.call { callee:=.value x,args:=aS,argTypes:=ats })=none:=rfl
def Ul(x:Operand)(m:String)(aS:Array Operand)(ats:Array TypeId):dO P f S (.call { callee:=.invoke x m,args:=aS,argTypes:=ats })=none:=rfl
def ph(k:IntKind)(n:Nat):dh (.int k (n:Int))=some n:=rfl
def M1(k:IntKind)(n:Nat):dh (.int k (OfNat.ofNat n))=some n:=rfl
def Mm(cs:List AV):(AV.agg cs).cells=cs:=rfl
def V5:=y8 @pw.eq_1 @pw.eq_2 @dO.eq_1 @dO.eq_2 @dO.eq_3 @dO.eq_4 @dO.eq_5 (y8 @dO.eq_6 @dO.eq_7 @dO.eq_8 @dO.eq_9 @dO.eq_10 @dO.eq_11 @dO.eq_12 (y8 @dO.eq_13 @dO.eq_14 @dO.eq_15 @dO.eq_16 @dO.eq_17 @dO.eq_18 @dO.eq_19 (y8 @dO.eq_20 @dO.eq_21 @dO.eq_22 @dO.eq_23 @dO.eq_24 @dO.eq_25 @dO.eq_26 (y8 @dO.eq_27 @Av.eq_1 @Av.eq_2 @uH.eq_1 @aP.eq_1 @aP.eq_2 @tc.eq_1 (y5 @tc.eq_2 @kS.eq_1 @kS.eq_2 @cV.eq_1 @cV.eq_2)))))
def V6:=y8 @IB.eq_1 @IB.eq_2 @gf.eq_1 @gf.eq_2 @gf.eq_3 @gf.eq_4 @qt.eq_1 (y8 @qt.eq_2 @l8.eq_1 @l8.eq_2 @x8.eq_1 @x8.eq_2 @ud.eq_1 @ud.eq_2 (y8 @DD.eq_1 @nP.eq_1 @cU.eq_1 @cU.eq_2 @cU.eq_3 @ji.eq_1 @ji.eq_2 (y8 @Jt.eq_1 @By.eq_1 @By.eq_2 @By.eq_3 @Au.eq_1 @Au.eq_2 @Au.eq_3 (y8 @Au.eq_4 @Au.eq_5 @uT.eq_1 @uT.eq_2 @uT.eq_3 @eC.eq_1 @gy.eq_1 (y3 @BH.eq_1 @BH.eq_2 @ie.eq_1)))))
def V7:=y8 @ie.eq_2 @ie.eq_3 @ie.eq_4 @ie.eq_5 @LG.eq_1 @EF.eq_1 @bF.eq_1 (y8 @bF.eq_2 @bF.eq_3 @bF.eq_4 @bF.eq_5 @pV.eq_1 @zy.eq_1 @qc.eq_1 (y8 @D0.eq_1 @nA.eq_1 @nA.eq_2 @nA.eq_3 @nA.eq_4 @cI.eq_1 @cI.eq_2 (y8 @cI.eq_3 @cI.eq_4 @cI.eq_5 @cI.eq_6 @cI.eq_7 @eU.eq_1 @po.eq_1 (y8 @po.eq_2 @po.eq_3 @eI.eq_1 @ja.eq_1 @ve.eq_1 @cR.eq_1 @cR.eq_2 (y8 @cR.eq_3 @fq.eq_1 @fq.eq_2 @fq.eq_3 @fq.eq_4 @names.eq_1 @names.eq_2 (y2 @names.eq_3 @names.eq_4))))))
def V8:=y8 @names.eq_5 @names.eq_6 @names.eq_7 @fp.eq_1 @fp.eq_2 @bf.eq_1 @vE.eq_1 (y8 @vE.eq_2 @Dt.eq_1 @Dt.eq_2 @lA.eq_1 @lA.eq_2 @mA @G4 (y8 @G2 @G3 @CK @Ml @Rl @Rm @Rk (y8 @OD @OB @OC @Mo @OA @Sf @Sc (y8 @Sd @PJ @PI @PH @Sa @Sb @Uc (y5 @Ud @Ub @R8 @Vd @Ve)))))
def V9:=y8 @Vc @Ur @SK @SJ @Uq @bG @Um (y8 @Ul @ph @IW @IV @Mp @M1 @Mm (y8 @Mn @Uw @Oq @Ow @Ov @Ot @yX (y8 @Ou (λ{P:Program} {t:TypeId} {a b:Int}=>@KR P t a b _ Cy) (λ{P:Program} {t:TypeId} {a b:Int}=>@DB P t a b _ Cy) (λ{P:Program} {t:TypeId} {a b:Int}=>@KQ P t a b _ Cy) (λ{P:Program} {t:TypeId} {a b:Int}=>@KP P t a b _ Cy) (λ{P:Program} {t:TypeId} {a b:Int}=>@DA P t a b _ Cy) (λ{P:Program} {t:TypeId} {a b:Int}=>@tO P t a b _ Cy) (y8 (λ{P:Program} {t:TypeId} {a b:Int}=>@KR P t a b _ MQ) (λ{P:Program} {t:TypeId} {a b:Int}=>@DB P t a b _ MQ) (λ{P:Program} {t:TypeId} {a b:Int}=>@KQ P t a b _ MQ) (λ{P:Program} {t:TypeId} {a b:Int}=>@KP P t a b _ MQ) (λ{P:Program} {t:TypeId} {a b:Int}=>@DA P t a b _ MQ) (λ{P:Program} {t:TypeId} {a b:Int}=>@tO P t a b _ MQ) @names.eq_8 (y8 @Au.eq_6 @Au.eq_7 @uT.eq_4 @uT.eq_5 @bF.eq_6 @bF.eq_7 @nA.eq_6 (y8 @nA.eq_8 @nA.eq_9 @nA.eq_10 @ie.eq_6 @ie.eq_7 @ie.eq_8 @Oe.eq_1 (y8 @Oe.eq_2 @Oe.eq_3 @Mf.eq_1 @Mf.eq_2 @Mf.eq_3 @Mf.eq_4 @K0.eq_1 (y8 @OL.eq_1 @DG.eq_1 @UC.eq_1 @UC.eq_2 @IU.eq_1 @IU.eq_2 @IU.eq_3 (y8 @IU.eq_4 @G1 @Mq @Oz @PK @R9 @yk.eq_1 @yC.eq_1)))))))))
def dD:=y5 V5 V6 V7 V8 V9
end
noncomputable section
def kQ:Op->Bool
 | .move _ | .assign _ | .pick _ _ _ | .build _ _ | .nilCheck _ | .binOp _ _ _ _ _ | .unOp _ _ _ | .convert _ _ _ | .fieldAddr _ _ _ | .field _ _ _ | .indexAddr _ _ _ | .index _ _ _ | .extract _ _ | .load _ _ | .lookup _ _ _ _ | .slice _ _ _ _ _=>true
 | .makeFunc (.func _) _ _=>true
 | .makeFunc (.method _) _ _=>true
 | .call { callee:=.builtin .len,.. }=>true
 | _=>false
def Jh:Op->Bool
 | .load _ _ | .lookup _ _ _ _ | .call _ | .slice _ _ _ _ _=>true
 | _=>false
def Qv{P:Program}{f:Fm}{S S':List SO}{op:Op}(hr:kQ op=true){v:SV}{kill:Option Nat}(h:dO P f S op=some (v,S',kill)):S'=S/\kill=none:=by
 cases op with
 | move x=>obtain⟨_,_,e⟩:=au h;cases e;exact⟨rfl,rfl⟩
 | assign x=>obtain⟨_,_,e⟩:=au h;cases e;exact⟨rfl,rfl⟩
 | pick c a b=>obtain⟨_,_,e⟩:=au h;cases e;exact⟨rfl,rfl⟩
 | build tt ps=>obtain⟨_,_,h⟩:=t8 h;obtain⟨_,_,e⟩:=au h;cases e;exact⟨rfl,rfl⟩
 | nilCheck x=>obtain⟨_,_,h⟩:=t8 h;obtain⟨_,_,e⟩:=au h;cases e;exact⟨rfl,rfl⟩
 | binOp op xt x y yt=>
  obtain⟨_,_,h⟩:=t8 h;obtain⟨_,_,h⟩:=t8 h;obtain⟨_,_,h⟩:=t8 h;obtain⟨_,_,h⟩:=t8 h;obtain⟨_,_,e⟩:=au h;cases e;exact⟨rfl,rfl⟩
 | unOp op xt x=>
  obtain⟨_,_,h⟩:=t8 h;obtain⟨_,_,h⟩:=t8 h;obtain⟨_,_,e⟩:=au h;cases e;exact⟨rfl,rfl⟩
 | convert s d x=>
  obtain⟨_,_,h⟩:=t8 h;obtain⟨_,_,h⟩:=t8 h;obtain⟨_,_,e⟩:=au h;cases e;exact⟨rfl,rfl⟩
 | fieldAddr s x fl=>obtain⟨_,_,h⟩:=t8 h;obtain⟨_,_,e⟩:=au h;cases e;exact⟨rfl,rfl⟩
 | field s x fl=>obtain⟨_,_,h⟩:=t8 h;obtain⟨_,_,e⟩:=au h;cases e;exact⟨rfl,rfl⟩
 | indexAddr s x i=>
  obtain⟨_,_,h⟩:=t8 h;obtain⟨_,_,h⟩:=t8 h;obtain⟨_,_,e⟩:=au h;cases e;exact⟨rfl,rfl⟩
 | index s x i=>
  obtain⟨_,_,h⟩:=t8 h;obtain⟨_,_,h⟩:=t8 h;obtain⟨_,_,e⟩:=au h;cases e;exact⟨rfl,rfl⟩
 | extract x i=>
  simp only[dO] at h;split at h
  ·obtain⟨_,_,e⟩:=au h;cases e;exact⟨rfl,rfl⟩
  ·cases h
 | makeFunc g first cap=>
  cases g with
  | func g=>obtain⟨_,_,h⟩:=t8 h;obtain⟨_,_,e⟩:=au h;cases e;exact⟨rfl,rfl⟩
  | method nm=>
   obtain⟨_,_,h⟩:=t8 h;obtain⟨_,_,h⟩:=t8 h;obtain⟨_,_,h⟩:=t8 h;obtain⟨_,_,e⟩:=au h;cases e;exact⟨rfl,rfl⟩
  | _=>simp[kQ] at hr
 | load tt a=>obtain⟨_,_,h⟩:=t8 h;obtain⟨_,_,e⟩:=au h;cases e;exact⟨rfl,rfl⟩
 | lookup tt x k ok=>
  obtain⟨_,_,h⟩:=t8 h;obtain⟨_,_,h⟩:=t8 h;obtain⟨_,_,e⟩:=au h;cases e;exact⟨rfl,rfl⟩
 | slice tt x lo hi mx=>
  obtain⟨_,_,h⟩:=t8 h;obtain⟨_,_,h⟩:=t8 h;obtain⟨_,_,h⟩:=t8 h;obtain⟨_,_,h⟩:=t8 h;obtain⟨_,_,e⟩:=au h;cases e;exact⟨rfl,rfl⟩
 | call c=>
  obtain⟨callee,aS,ats⟩:=c
  cases callee with
  | builtin b=>
   cases b with
   | len=>
    obtain⟨_,_,h⟩:=t8 h;rename_i vs _
    cases hats:ats.toList with
    | nil=>rw[hats] at h;cases h
    | cons tt l=>
     rw[hats] at h
     cases vs with
     | nil=>cases h
     | cons x l'=>
      have h:(Au P S tt x).map (λ(n:Nat)=>((SV.a (.int .i64 (n:Int)),S,none):SV×List SO×Option Nat))=some (v,S',kill):=h;obtain⟨_,_,e⟩:=au h;cases e;exact⟨rfl,rfl⟩
   | _=>simp[kQ] at hr
  | _=>simp[kQ] at hr
 | _=>simp[kQ] at hr
section
variable {θ:Nat->Loc} {ρ ρ0:kG} {P:Program}
mutual
def Gk:∀{r:SV} {v:AV},cU r=some v->VS θ ρ r v
 | .a w,v,h=>by rw[cU] at h;cases h;rw[VS]
 | .ag cs,v,h=>by rw[cU] at h;obtain⟨aS,h1,rfl⟩:=au h;rw[VS];exact⟨aS,rfl,uk h1⟩
 | .any,_,h=>by simp[cU] at h
 | .sl _ _ _,_,h=>by simp[cU] at h
 | .im _ _,_,h=>by simp[cU] at h
 | .ip _,_,h=>by simp[cU] at h
 | .ptr _ _,_,h=>by simp[cU] at h
 | .map _,_,h=>by simp[cU] at h
 | .buf _ _ _ _,_,h=>by simp[cU] at h
 | .sub _ _ _ _ _,_,h=>by simp[cU] at h
 | .e0 _,_,h=>by simp[cU] at h
 | .cq _,_,h=>by simp[cU] at h
 | .fn _ _ _,_,h=>by simp[cU] at h
 | .iface t w,v,h=>by rw[cU] at h;obtain⟨a,h1,rfl⟩:=au h;rw[VS];exact⟨a,rfl,Gk h1⟩
def uk:∀{rs:List SV} {vs:List AV},ji rs=some vs->da θ ρ rs vs
 | [],vs,h=>by rw[ji] at h;cases h;rw[bj]
 | d::ds,vs,h=>by
  rw[ji] at h;obtain⟨a,ha,h⟩:=t8 h;obtain⟨b,hb,rfl⟩:=au h;rw[aM];exact⟨a,b,rfl,Gk ha,uk hb⟩
end
end
section
variable {P:Program} {ro:Option Nat} {Q:Ex->eR->Prop} {f f':Fm} {n:Nat} {S S':List SO} {ds:List kr}
def aE.Tn{id:Nat}{ops:Array Oper}{l':List Oper}(hs:eP ops.toList n ops.toList=true)(h:pw P ops.toList ops.toList f S=(l',f',S'))(hk:aR P ro ops.toList l' ⟨f',n,S',ds⟩ (Q .normal)):aE P ro (.region id ops false) ⟨f,n,S,ds⟩ Q:=.region (.run hs h hk)
def aE.r0{id:Nat}{ops:Array Oper}(hs:eP ops.toList n ops.toList=true)(h:pw P ops.toList ops.toList f S=([],f',S'))(hk:Q .normal ⟨f',n,S',ds⟩):aE P ro (.region id ops false) ⟨f,n,S,ds⟩ Q:=.Tn hs h (.nil hk)
def aR.r0{all l:List Oper}{K:eR->Prop}(hs:eP all n l=true)(h:pw P all l f S=([],f',S'))(hk:K ⟨f',n,S',ds⟩):aR P ro all l ⟨f,n,S,ds⟩ K:=.run hs h (.nil hk)
theorem aR.k{all:List Oper}{o:Oper}{l:List Oper}{K:eR->Prop}{d:Nat}{c:Call}{g:FuncId}{vs ws:List SV}{r:SV}(hst:eP all n [o]=true)(hop:o.op=.call c)(hdst:o.dst=some d)(hw:cV all f o.guard=some true)(hdy:gi (.call c)=true)
 (hc:ja P f c=some (g,vs)) (hq:PC P g ws (·=r)) (hwk:bm S vs ws) (hfl:wZ r=true\/bm [] vs ws) (hk:aR P ro all l ⟨(d,r)::f,n,S,ds⟩ K):aR P ro all (o::l) ⟨f,n,S,ds⟩ K:=by
 have hd:=(fW hst).1;rw[hdst] at hd;exact .call hop hdst (fi hst hw) hdy hd hc hq hwk (hfl.imp (λh r hr=>by rw[hr];exact h) id) (λr hr=>by rw[hr];exact hk)
end
def Vf:(∀(a:SV) (l:List SV) (i:Nat),(a::l)[i+1]?=l[i]?)/\(∀(a:SV) (l:List SV),(a::l)[0]?=some a)/\(∀(a:AV) (l:List AV) (i:Nat),(a::l)[i+1]?=l[i]?)/\(∀(a:AV) (l:List AV),(a::l)[0]?=some a)/\(∀(a:SO) (l:List SO) (i:Nat),(a::l)[i+1]?=l[i]?)/\(∀(a:SO) (l:List SO),(a::l)[0]?=some a)/\(∀(a:Oper) (l:List Oper) (i:Nat),(a::l)[i+1]?=l[i]?)/\(∀(a:Oper) (l:List Oper),(a::l)[0]?=some a)/\(∀(a:SV) (l:List SV) (i:Nat),(a::l).drop (i+1)=l.drop i)/\(∀l:List SV,l.drop 0=l)/\(∀i:Nat,([]:List SV).drop i=[])/\(∀(i:Nat) (a:SV) (l:List SV),(a::l).take (i+1)=a::l.take i)/\(∀l:List SV,l.take 0=[])/\(∀i:Nat,([]:List SV).take i=[])/\(∀(p:SV->Bool) (a:SV) (l:List SV),(a::l).all p=(p a&&l.all p))/\(∀p:SV->Bool,([]:List SV).all p=true)/\(∀l:List SV,[]++l=l)/\(∀(a:SV) (l m:List SV),(a::l)++m=a::(l++m))/\(∀(a b:SV) (l:List SV),(a::l).set 0 b=b::l)/\(∀(a b:SV) (l:List SV) (i:Nat),(a::l).set (i+1) b=a::l.set i b)/\(∀l:List SO,[]++l=l)/\(∀(a:SO) (l m:List SO),(a::l)++m=a::(l++m))/\(∀(a b:SO) (l:List SO),(a::l).set 0 b=b::l)/\(∀(a b:SO) (l:List SO) (i:Nat),(a::l).set (i+1) b=a::l.set i b)/\(∀(a:SV) (l:List SV),(a::l).length=l.length+1)/\(([]:List SV).length=0)/\(∀(a:SO) (l:List SO),(a::l).length=l.length+1)/\(([]:List SO).length=0)/\(∀(a:AV) (l:List AV),(a::l).length=l.length+1)/\(([]:List AV).length=0):=by
 (repeat' apply bb)<;>intros<;>first | rfl | (simp;done) | (unfold qN;rfl)
def Vg:(∀(f:AV->SV) (a:AV) (l:List AV),(a::l).map f=f a::l.map f)/\(∀f:AV->SV,([]:List AV).map f=[])/\(∀(f:SV->SV) (a:SV) (l:List SV),(a::l).map f=f a::l.map f)/\(∀f:SV->SV,([]:List SV).map f=[])/\(∀(f:SO->SO) (a:SO) (l:List SO),(a::l).map f=f a::l.map f)/\(∀f:SO->SO,([]:List SO).map f=[])/\(∀(f:(Nat×SV)->(Nat×SV)) (a:(Nat×SV)) (l:List (Nat×SV)),(a::l).map f=f a::l.map f)/\(∀f:(Nat×SV)->(Nat×SV),([]:List (Nat×SV)).map f=[])/\(∀l:List Oper,l.toArray.toList=l)/\(∀l:List Operand,l.toArray.toList=l)/\(∀l:List TypeId,l.toArray.toList=l)/\(∀l:List (Nat×Operand),l.toArray.toList=l)/\(∀l:List ResultVar,l.toArray.toList=l)/\(∀x y:SV,cond true x y=x)/\(∀x y:SV,cond false x y=y)/\(∀x y:Bool,cond true x y=x)/\(∀x y:Bool,cond false x y=y)/\(∀x y:Option (SV×List SO×Option Nat),cond true x y=x)/\(∀x y:Option (SV×List SO×Option Nat),cond false x y=y)/\(∀x y:Option SV,cond true x y=x)/\(∀x y:Option SV,cond false x y=y)/\(∀x y:Option (List SO),cond true x y=x)/\(∀x y:Option (List SO),cond false x y=y)/\(∀n:Nat,0+n=n)/\(∀n:Nat,n+0=n)/\(∀n:Nat,0*n=0)/\(∀b,(b||false)=b)/\(∀b,(false||b)=b)/\(∀b,(b||true)=true)/\(∀b,(true||b)=true):=by
 (repeat' apply bb)<;>intros<;>first | rfl | (simp;done) | (unfold qN;rfl)
def Vh:(∀b,(b&&true)=b)/\(∀b,(true&&b)=b)/\(∀b,(b&&false)=false)/\(∀b,(false&&b)=false)/\((!true)=false)/\((!false)=true)/\(∀p:Prop,(p/\True)=p)/\(∀p:Prop,(True/\p)=p)/\((¬False)=True)/\((¬True)=False)/\(∀a b:Nat,(a≠b)=¬(a=b))/\(∀b:Bool,(b=b)=True)/\(∀n:Nat,(n=n)=True)/\((false=true)=False)/\((true=false)=False)/\(∀{α:Type} (p:Prop) [Decidable p] (x:Option α),qN p x=if p then x else none):=by
 (repeat' apply bb)<;>intros<;>first | rfl | (simp;done) | (unfold qN;rfl)
def Vi:(∀(k:IntKind) (n:Int),mn na (.int k n)=some (.int k n))/\(∀b,mn na (.bool b)=some (.bool b))/\(mn na (.pointer none)=some (.ptr none))/\(mn na (.slice none 0 0)=some (.slice none 0 0 (some 0)))/\(mn na (.map none)=some (.map none))/\(mn na .nilFunc=some .ep)/\(∀s,mn na (.string s)=some (.str (s.data.toList.map (·.toNat))))/\(∀l:List UInt8,l.toArray.toList=l)/\(∀(f:UInt8->Nat) (a:UInt8) (l:List UInt8),(a::l).map f=f a::l.map f)/\(∀f:UInt8->Nat,([]:List UInt8).map f=[])/\(∀h:Decidable False,@decide False h=false)/\(∀h:Decidable True,@decide True h=true):=by
 (repeat' apply bb)<;>intros<;>first | rfl | (simp;done)
def Vj:(∀l:List (Nat×SV),[]++l=l)/\(∀(a:Nat×SV) (l m:List (Nat×SV)),(a::l)++m=a::(l++m))/\(∀z:List AV,rep z 0=[])/\(∀(z:List AV) (n:Nat),rep z (n+1)=z++rep z n)/\(∀l:List AV,[]++l=l)/\(∀(a:AV) (l m:List AV),(a::l)++m=a::(l++m))/\(∀s,(AV.str s).cells=[.str s])/\(∀k n,(AV.int k n).cells=[.int k n])/\(∀b,(AV.bool b).cells=[.bool b])/\(∀o n e c,(AV.slice o n e c).cells=[.slice o n e c])/\(∀o,(AV.ptr o).cells=[.ptr o])/\(∀o,(AV.map o).cells=[.map o])/\(AV.ep.cells=[.ep])/\(AV.x7.cells=[.x7]):=by
 (repeat' apply bb)<;>intros<;>first | rfl | (simp;done)
def bY:type_of% Vf/\type_of% Vg/\type_of% Vh/\type_of% Vi/\type_of% Vj:=⟨Vf,Vg,Vh,Vi,Vj⟩
def fQ(k:Nat):((k+1:Nat):Int)=(k:Int)+1:=rfl
def T1{k l B:Nat}(h1:k<l)(h2:l<=B)(hB:B<=9223372036854775807) : -9223372036854775808<=(k:Int)+1/\(k:Int)+1<=9223372036854775807:=⟨by omega,by omega⟩
def Cb.of{P:Program}{fn:Func}{Q:SV->Prop}{e:Ex}{f:Fm}{n:Nat}{S:List SO}{rs:List ResultVar}{vs:List SV}{r:SV}(he:kM e=true)(hr:fn.results.toList=rs)(h:po P f S rs=some vs)(hw:Wk S (eI vs) r)(hq:Q r):Cb P fn Q e ⟨f,n,S,[]⟩:=by
 subst hr;exact⟨he,rfl,vs,r,h,hw,hq⟩
abbrev ah(s:List Nat):SV:=.a (.str s)
abbrev ab(n:Int):SV:=.a (.int .i64 n)
abbrev ak(b:Bool):SV:=.a (.bool b)
def an{α:Type}(e:Nat)(l:List α)(enc:α->List SV):SV:=.sl l.length e (l.flatMap enc)
def aQ{α:Type}{e:Nat}{enc:α->List SV}(he:∀x,(enc x).length=e):∀{l:List α} {i:Nat} {x:α},l[i]?=some x->((l.flatMap enc).drop (i*e)).take e=enc x
 | [],i,x,h=>by simp at h
 | a::l,0,x,h=>by
  simp only[ax,qr] at h;subst h;rw[bv,bH,cM,List.take_append_of_le_length (by rw[he];exact b7 _),ce (by rw[he];exact b7 _)]
 | a::l,i+1,x,h=>by
  simp only[ap] at h;have ih:=aQ he h;rw[cM,d3,Nat.add_comm,<-a3,show List.drop e (enc a++l.flatMap enc)=l.flatMap enc from by rw[List.drop_append_of_le_length (by rw[he];exact b7 _),bh (by rw[he];exact b7 _),dc]];exact ih
def gu{α:Type}(p:α->Bool)(l:List α):Int:=match l.findIdx? p with
 | some k=>(k:Int)
 | none => -1
def mu{α:Type}{p:α->Bool}{l:List α}{k:Nat}{x:α}(h1:l[k]?=some x)(h2:p x=true)(h3:∀(i:Nat) y,i<k->l[i]?=some y->p y=false):gu p l=(k:Int):=by
 have:l.findIdx? p=some k:=by
  rw[List.findIdx?_eq_some_iff_getElem];obtain⟨hlt,he⟩:=rg h1;refine⟨hlt,by rw[he];exact h2,λj hj=>?_⟩;rw[h3 j _ hj (jp ii)];decide
 unfold gu;rw[this]
def iP{α:Type}{p:α->Bool}{l:List α}(h3:∀(i:Nat) y,i<l.length->l[i]?=some y->p y=false):gu p l = -1:=by
 have:l.findIdx? p=none:=by
  rw[List.findIdx?_eq_none_iff];intro x hx;obtain⟨i,hi⟩:=List.mem_iff_getElem?.1 hx;exact h3 i x (bx hi) hi
 unfold gu;rw[this]
def aD{α:Type}(c:α->SV)(x:α):List SV:=[c x]
def PC.of{P:Program}{g:FuncId}{aS:List SV}{xs:List AV}{v:AV}(h:∀h,ef P (.func g) xs h (λa h'=>a=v/\h'=h))(hx:∀ρ avs,kn ρ aS avs->avs=xs):PC P g aS (·=.a v):=
 λρ hh avs h1 h2=>by
  have:=hx ρ avs h2;subst this;exact(h hh).mono λa h' ⟨e1,e2⟩=>⟨.a v,ρ,rfl,by rw[e2];exact .refl _ _,λid ob hi=>.inl hi,by rw[GS];exact e1⟩
def tv{α:Type}(e:Nat)(l:List α)(enc:α->List SV):an e l enc=.sl l.length e (l.flatMap enc):=rfl
section
variable {P:Program} {K U:Type} [DecidableEq K] {kv:K->AV} {uv:U->SV} {S:List SO} {t kt et:TypeId} {z:AV} {u0:U} {l:List (K×U)} {o:Nat} {x:SV} {k:K}
def bD(kv:K->AV)(uv:U->SV)(l:List (K×U)):SO:=.map (l.map λe=>kv e.1) (l.map λe=>uv e.2) none
abbrev mw(kv:K->AV)(uv:U->SV)(l:List (K×U)):SV:=.im (l.map λe=>kv e.1) (l.map λe=>uv e.2)
def rQ(hk:Keys P kt kv)(k:K):∀(l:List (K×U)) (j:Nat),uh P kt (kv k) (l.map λe=>kv e.1) j=some (wD k l j)
 | [],_=>rfl
 | e::l,j=>by
  rw[am,uh,hk.eq];by_cases h:k=e.1
  ·simp only[h,decide_true,wD,if_true]
  ·simp only[h,decide_false,wD,if_false];exact rQ hk k l (j+1)
def GQ(hm:dy P t=some (kt,et))(hk:Keys P kt kv)(hz:dm P et=some z)(hu:ve z=uv u0)(hS:By S x=some (l.map (λe=>kv e.1),l.map λe=>uv e.2)){y:SV}(hf:cU y=some (kv k))(ok:Bool):
 jv P S t x y ok=some (_root_.cond ok (.cq [uv (getM u0 k l),ak (dx k l)]) (uv (getM u0 k l))):=by
 unfold jv;rw[hm,m7];simp only;rw[hf,m7,hk.ck,ar,hS,m7];simp only;rw[rQ hk,m7]
 cases hp:wD k l 0 with
 | none=>
  have hn:=sa hp;simp only[hz,m6,Aa hn,hn,hu]
 | some i=>
  obtain⟨_,u,h2,h3,_,h5⟩:=pk hp;rw[c0] at h2;simp only[a5,h2,m6,h3,h5]
def Pr(hm:dy P t=some (kt,et))(hk:Keys P kt kv)(hz:dm P et=some z)(hu:ve z=uv u0)(hS:S[o]?=some (bD kv uv l))(hf:cU x=some (kv k))(ok:Bool):
 jv P S t (.map o) x ok=some (_root_.cond ok (.cq [uv (getM u0 k l),ak (dx k l)]) (uv (getM u0 k l))):=
 GQ hm hk hz hu (by simp only[By,hS,bD]) hf ok
def Th(hm:dy P t=some (kt,et))(hk:Keys P kt kv)(hz:dm P et=some z)(hu:ve z=uv u0)(hf:cU x=some (kv k))(ok:Bool):
 jv P S t (mw kv uv l) x ok=some (_root_.cond ok (.cq [uv (getM u0 k l),ak (dx k l)]) (uv (getM u0 k l))):=
 GQ hm hk hz hu (by simp only[mw,By]) hf ok
def JD(hm:dy P t=some (kt,et))(hk:Keys P kt kv)(hS:S[o]?=some (bD kv uv l))(hf:cU x=some (kv k))(u:U):
 iR P S t (.map o) x (uv u)=some (S.set o (bD kv uv (cu k u l))):=by
 unfold iR;rw[hm,m7];simp only;rw[hf,m7,hk.ck,ar,hS];simp only[bD];rw[rQ hk,m7]
 cases hp:wD k l 0 with
 | none=>
  have hn:=sa hp;simp only[pn hn,bi,am,bk,Option.map_none]
 | some i=>
  obtain⟨_,u',h2,_,h4,_⟩:=pk hp;rw[c0] at h2;have h4:=h4 u;rw[c0] at h4;simp only[a5,h2,m6,m7,hk.st,ar,h4,List.map_set]
omit [DecidableEq K] in
def mO{n:Nat}(h:∀u,names n (uv u)=false):cI n (bD kv uv l)=bD kv uv l:=by
 simp only[cI,bD,List.map_map]
 congr 1
 refine List.map_congr_left λe _=>?_;simp only[Function.comp,bf,h,aw]
omit [DecidableEq K] in
def qa(h:∀u,mN (uv u)=true):∀l:List (K×U),bZ (l.map λe=>uv e.2)=true
 | []=>rfl
 | e::l=>by rw[am,bZ,h,b8];exact qa h l
omit [DecidableEq K] in
def mF(h:∀u,mN (uv u)=true)(hS:S[o]?=some (bD kv uv l)):Wk S (.map o) (mw kv uv l):=Wk.map hS (bm.refl (qa h l))
end
def Pk{P:Program}{kt:TypeId}(h:P.underlying kt=some .string):Keys P kt AV.str where
 eq a b:=by unfold lT;rw[h];simp only[lU]
 ck a:=by unfold xY F5;rw[h]
 st a:=by unfold stays Eu;simp only[nh,Bool.true_and];exact Ci _ _
def q7{n:Nat}{l:List (List Nat×Bool)}:cI n (bD AV.str ak l)=bD AV.str ak l:=mO λ_=>mA _
def T4{n:Nat}{l:List (List Nat×Int)}:cI n (bD AV.str ab l)=bD AV.str ab l:=mO λ_=>mA _
inductive Kd where
 | b
 | i (k:IntKind)
 | s
def NS:Kd->AV->Bool
 | .b,.bool _=>true
 | .i k,.int k' _=>BE k k'
 | .s,.str _=>true
 | _,_=>false
def sv:List Kd->List AV->Bool
 | [],[]=>true
 | k::ks,x::xs=>NS k x&&sv ks xs
 | _,_=>false
def zF(P:Program)(rec:TypeId->Option (List Kd)):List Field->Nat->Option (List Kd)
 | [],_=>some []
 | f::fs,off=>cond (!(f.name== "_")&&beq f.offset off) ((rec f.type).bind λks=>(zF P rec fs (off+ks.length)).map λr=>ks++r) none
def flatK(P:Program):Nat->TypeId->Option (List Kd)
 | 0,_=>none
 | d+1,t=>match P.underlying t,Iv P t with
  | some .bool,some (1,false)=>some [.b]
  | some (.int k),some (1,false)=>some [.i k]
  | some .string,some (1,false)=>some [.s]
  | some (.struct fs),some (n,true)=>cond (P.stoodInHeld t) none ((zF P (flatK P d) fs.toList 0).bind λks=>cond (beq ks.length n) (some ks) none)
  | _,_=>none
def Am:∀{ks:List Kd} {xs:List AV},sv ks xs=true->xs.length=ks.length
 | [],[],_=>rfl
 | [],_::_,h=>by cases h
 | _::_,[],h=>by cases h
 | k::ks,x::xs,h=>by
  rw[sv,ac] at h;simp[Am h.2]
def th:∀{k1 k2:List Kd} {xs:List AV},sv (k1++k2) xs=true->sv k1 (xs.take k1.length)=true/\sv k2 (xs.drop k1.length)=true
 | [],k2,xs,h=>⟨rfl,h⟩
 | k::k1,k2,[],h=>by cases h
 | k::k1,k2,x::xs,h=>by
  have h:(NS k x&&sv (k1++k2) xs)=true:=h;rw[ac] at h;obtain⟨h1,h2⟩:=th h.2;exact⟨by show(NS k x&&sv k1 (xs.take k1.length))=true;rw[h.1,h1];rfl,h2⟩
def yQ(e:AV->AV->Bool):∀(n:Nat) {xs ys:List AV},xs.length=ys.length->gn e xs ys=(gn e (xs.take n) (ys.take n)&&gn e (xs.drop n) (ys.drop n))
 | 0,xs,ys,_=>by rw[List.take_zero,List.take_zero];rfl
 | n+1,[],[],_=>rfl
 | n+1,x::xs,y::ys,h=>by
  have h:xs.length=ys.length:=by simpa using h
  show(e x y&&gn e xs ys)=((e x y&&gn e (xs.take n) (ys.take n))&&gn e (xs.drop n) (ys.drop n));rw[yQ e n h,Bool.and_assoc]
 | n+1,[],y::ys,h=>by simp at h
 | n+1,x::xs,[],h=>by simp at h
section
variable {P:Program}
def EqAt(P:Program)(d:Nat)(t:TypeId)(ks:List Kd):Prop:=
 (∃k,ks=[k]/\Iv P t=some (1,false)/\∀x y,NS k x=true->NS k y=true->lT P d t x y=some (eK x y)/\F5 P d t x=true)\/
 (Iv P t=some (ks.length,true)/\∀xs ys,sv ks xs=true->sv ks ys=true->lT P d t (.agg xs) (.agg ys)=some (gn eK xs ys)/\F5 P d t (.agg xs)=true)
def Cm{d:Nat}(hrec:∀t ks,flatK P d t=some ks->EqAt P d t ks):∀{fs:List Field} {off:Nat} {ks:List Kd},zF P (flatK P d) fs off=some ks->∀xs ys,xs.length=ys.length->off+ks.length=xs.length->sv ks (xs.drop off)=true->sv ks (ys.drop off)=true->
 eqFields P (lT P d) fs xs ys=some (gn eK (xs.drop off) (ys.drop off))/\oO P (F5 P d) fs xs=true
 | [],off,ks,h,xs,ys,hl,hle,h1,h2=>by
  simp only[zF,qr] at h;subst h;have e1:xs.drop off=[]:=List.drop_of_length_le (by simp at hle;omega);have e2:ys.drop off=[]:=List.drop_of_length_le (by simp at hle;omega);rw[e1,e2];exact⟨rfl,rfl⟩
 | f::fs,off,ks,h,xs,ys,hl,hle,h1,h2=>by
  simp only[zF] at h;obtain⟨hb,h⟩:=aF h;rw[Bool.and_eq_true] at hb;have hoff:=cW hb.2
  have hnm:(f.name== "_")=false:=by have:=hb.1;cases hq:(f.name== "_");rfl;rw[hq] at this;cases this
  obtain⟨k1,hk1,h⟩:=t8 h;obtain⟨r,hr,rfl⟩:=au h;obtain⟨a1,a2⟩:=th h1;obtain⟨b1,b2⟩:=th h2;rw[List.drop_drop] at a2 b2;rw[li] at hle;obtain⟨ih1,ih2⟩:=Cm hrec hr xs ys hl ii a2 b2;have hs:=yQ eK k1.length (xs:=xs.drop off) (ys:=ys.drop off) (by rw[List.length_drop,List.length_drop,hl]);rw[List.drop_drop,List.drop_drop] at hs
  have hpart:∃p q,ff P f.type xs f.offset=some p/\ff P f.type ys f.offset=some q/\lT P d f.type p q=some (gn eK ((xs.drop off).take k1.length) ((ys.drop off).take k1.length))/\F5 P d f.type p=true:=by
   rw[hoff]
   rcases hrec _ _ hk1 with⟨k,rfl,hz,hq⟩ | ⟨hz,hq⟩
   ·obtain⟨z1,z2⟩:=vx hz;simp only[i7,i5,Nat.zero_add] at hle a1 b1 ⊢;obtain⟨x,hx⟩:∃x,xs[off]?=some x:=⟨xs[off],jp ii⟩;obtain⟨y,hy⟩:∃y,ys[off]?=some y:=⟨ys[off],jp ii⟩
    have ex:(xs.drop off).take 1=[x]:=by rw[List.take_one,List.head?_drop,hx];rfl
    have ey:(ys.drop off).take 1=[y]:=by rw[List.take_one,List.head?_drop,hy];rfl
    rw[ex] at a1;rw[ey] at b1;simp only[sv,Bool.and_true] at a1 b1;obtain⟨q1,q2⟩:=hq x y a1 b1;refine⟨x,y,?_,?_,?_,q2⟩
    ·unfold ff;rw[z1];exact hx
    ·unfold ff;rw[z1];exact hy
    ·rw[ex,ey,q1];simp only[gn,Bool.and_true]
   ·obtain⟨z1,z2⟩:=vx hz;obtain⟨q1,q2⟩:=hq _ _ a1 b1;refine⟨_,_,?_,?_,q1,q2⟩
    ·unfold ff;rw[z1];simp only;rw[z2,m7,fj (by simp only;omega),ar]
    ·unfold ff;rw[z1];simp only;rw[z2,m7,fj (by simp only;omega),ar]
  obtain⟨p,q,g1,g2,g3,g4⟩:=hpart;refine⟨?_,?_⟩
  ·unfold eqFields;rw[hnm,aw,g1,g2];simp only;rw[g3,hs];cases gn eK ((xs.drop off).take k1.length) ((ys.drop off).take k1.length)
   ·rfl
   ·simp only[Bool.true_and];exact ih1
  ·unfold oO;rw[hnm,g1];simp only;rw[g4,ih2];rfl
def zI:∀(d:Nat) (t:TypeId) (ks:List Kd),flatK P d t=some ks->EqAt P d t ks
 | 0,t,ks,h=>by simp[flatK] at h
 | d+1,t,ks,h=>by
  unfold flatK at h;split at h
  ·rename_i hu hz;cases h;refine .inl ⟨.b,rfl,hz,λx y hx hy=>?_⟩
   cases x<;>first | (simp[NS] at hx;done) | skip
   cases y<;>first | (simp[NS] at hy;done) | skip
   rename_i a b;constructor
   ·unfold lT;rw[hu];simp only[eK];cases a<;>cases b<;>rfl
   ·unfold F5;rw[hu]
  ·rename_i k hu hz;cases h;refine .inl ⟨.i k,rfl,hz,λx y hx hy=>?_⟩
   cases x<;>first | (simp[NS] at hx;done) | skip
   cases y<;>first | (simp[NS] at hy;done) | skip
   rename_i k1 a k2 b;simp only[NS] at hx hy
   have e1:k=k1:=by cases k<;>cases k1<;>first | rfl | cases hx
   have e2:k=k2:=by cases k<;>cases k2<;>first | rfl | cases hy
   subst e1;subst e2;constructor
   ·unfold lT;rw[hu];simp only[eK,hx,ar,Bool.true_and]
   ·unfold F5;rw[hu]
  ·rename_i hu hz;cases h;refine .inl ⟨.s,rfl,hz,λx y hx hy=>?_⟩
   cases x<;>first | (simp[NS] at hx;done) | skip
   cases y<;>first | (simp[NS] at hy;done) | skip
   constructor
   ·unfold lT;rw[hu];rfl
   ·unfold F5;rw[hu]
  ·rename_i fs n hu hz;cases hst:P.stoodInHeld t
   ·rw[hst,aw] at h;obtain⟨ks',hk,h⟩:=t8 h;obtain⟨hn,h⟩:=aF h;cases h;have hn:=cW hn;subst hn;refine .inr ⟨hz,λxs ys hx hy=>?_⟩;have l1:=Am hx;have l2:=Am hy;obtain⟨r1,r2⟩:=Cm (zI d) hk xs ys ii ii hx hy;constructor
    ·unfold lT;rw[hu];simp only;rw[hst,aw];exact r1
    ·unfold F5;rw[hu];exact r2
   ·rw[hst] at h;cases h
  ·cases h
def wb{K:Type}[DecidableEq K]{t:TypeId}{ks:List Kd}{cells:K->List AV}(hf:flatK P 4 t=some ks)(ha:(Iv P t).map (·.2)=some true)(hk:∀a,sv ks (cells a)=true)(he:∀a b,gn eK (cells a) (cells b)=decide (a=b))(hfl:∀a,(cells a).all nh=true):Keys P t λa=>.agg (cells a):=by
 have key:∀a b,lT P 4 t (.agg (cells a)) (.agg (cells b))=some (decide (a=b))/\F5 P 4 t (.agg (cells a))=true:=by
  intro a b
  rcases zI 4 t ks hf with⟨k,rfl,hz,_⟩ | ⟨_,hq⟩
  ·rw[hz] at ha;cases ha
  ·rw[<-he a b];exact hq _ _ (hk a) (hk b)
 refine⟨λa b=>(key a b).1,λa=>(key a a).2,λa=>?_⟩;unfold stays Eu;show((cells a).all nh&&ik 3 (.agg (cells a)) (.agg (cells a)))=true;rw[hfl a,b8];refine MG _ _ ?_
 have:∀l:List AV,l.all nh=true->gn (ik 2) l l=true:=by
  intro l
  induction l with
  | nil=>intro _;rfl
  | cons x l ih=>
   intro h;rw[ci,ac] at h;show(ik 2 x x&&gn (ik 2) l l)=true;rw[ih h.2,ct]
   cases x<;>first | (cases h.1;done) | exact I3 _ _ | exact MH _ _ _ | exact Ci _ _
 exact this _ (hfl a)
def tN{t:TypeId}{ks:List Kd}{xs ys:List AV}{b:Bool}(hg:P.eqGuardType P.depth t=false)(hf:flatK P 8 t=some ks)(ha:(Iv P t).map (·.2)=some true)(hx:sv ks xs=true)(hy:sv ks ys=true)(he:gn eK xs ys=b):dj P .eql t (.agg xs) (.agg ys)=some (.bool b):=by
 have:lT P 8 t (.agg xs) (.agg ys)=some b:=by
  rcases zI 8 t ks hf with⟨k,rfl,hz,_⟩ | ⟨_,hq⟩
  ·rw[hz] at ha;cases ha
  ·rw[<-he];exact(hq _ _ hx hy).1
 show cond (P.eqGuardType P.depth t) none ((lT P 8 t (.agg xs) (.agg ys)).map AV.bool)=_;rw[hg,aw,this];rfl
end
mutual
def fG(r:Nat->Nat):SV->SV
 | .any=>.any
 | .a v=>.a v
 | .sl n e cs=>.sl n e cs
 | .im ks vs=>.im ks vs
 | .ip cs=>.ip cs
 | .ptr o off=>.ptr (r o) off
 | .map o=>.map (r o)
 | .buf o n e c=>.buf (r o) n e c
 | .sub o off n e c=>.sub (r o) off n e c
 | .e0 e=>.e0 e
 | .ag cs=>.ag (nr r cs)
 | .cq cs=>.cq (nr r cs)
 | .fn g a b=>.fn g (nr r a) (nr r b)
 | .iface t v=>.iface t (fG r v)
def nr(r:Nat->Nat):List SV->List SV
 | []=>[]
 | d::ds=>fG r d::nr r ds
end
def Sw(r:Nat->Nat):Fm->Fm
 | []=>[]
 | (d,v)::f=>(d,fG r v)::Sw r f
def qo(r:Nat->Nat):SO->SO
 | .cells cs=>.cells (nr r cs)
 | .map ks vs b=>.map ks (nr r vs) b
 | .iter m bs c pos=>.iter (fG r m) bs c pos
 | .pI ks vs bs c pos=>.pI ks vs bs c pos
 | .gone=>.gone
 | .loop c ls p f=>.loop c ls p (Sw r f)
 | .nd N=>.nd N
def km(os:List Nat)(B i:Nat):Nat:=match os[i]? with
 | some o=>o
 | none=>B+(i-os.length)
mutual
def dG(B:Nat):SV->Bool
 | .ptr o _=>decide (o<B)
 | .map o=>decide (o<B)
 | .buf o _ _ _=>decide (o<B)
 | .sub o _ _ _ _=>decide (o<B)
 | .ag cs=>je B cs
 | .cq cs=>je B cs
 | .fn _ a b=>je B a&&je B b
 | .iface _ v=>dG B v
 | _=>true
def je(B:Nat):List SV->Bool
 | []=>true
 | d::ds=>dG B d&&je B ds
end
def FV(B:Nat):Fm->Bool
 | []=>true
 | (_,v)::f=>dG B v&&FV B f
def mX(B:Nat):SO->Bool
 | .cells cs=>je B cs
 | .map _ vs _=>je B vs
 | .iter m _ _ _=>dG B m
 | .pI _ _ _ _ _=>true
 | .gone=>true
 | .loop _ _ _ f=>FV B f
 | .nd _=>true
def vK(B:Nat):List SO->Bool
 | []=>true
 | s::l=>mX B s&&vK B l
def np:List Nat->SV->SV
 | [],v=>v
 | k::ks,v=>np ks (bf k v)
def oD:List Nat->Fm->Fm
 | [],f=>f
 | k::ks,f=>oD ks (eU k f)
def gw:List Nat->List SO->List SO
 | [],S=>S
 | k::ks,S=>gw ks (eC k S)
def gU:List SO->List Nat->List SO->List SO
 | S,[],ss=>S++ss
 | S,o::os,s::ss=>gU (S.set o s) os ss
 | S,_::_,[]=>S
section
variable {θ θ':Nat->Loc} {ρ ρ0 ρ':kG} {P:Program} {h0:En} {h h1:H} {S S' S0:List SO}
mutual
def VS.rn(r:Nat->Nat):∀{v:SV} {x:AV},VS θ ρ (fG r v) x↔VS (λp=>θ (r p)) ρ v x
 | .any,_=>by rw[fG,VS,VS]
 | .a v,x=>by rw[fG,VS,VS]
 | .sl n e cs,x=>by rw[fG,VS,VS]
 | .im ks vs,x=>by rw[fG,VS,VS]
 | .ip cs,x=>by rw[fG,VS,VS]
 | .ptr p _,_=>by rw[fG,VS,VS]
 | .map p,_=>by rw[fG,VS,VS]
 | .buf p _ _ _,_=>by rw[fG,VS,VS]
 | .sub p _ _ _ _,_=>by rw[fG,VS,VS]
 | .e0 _,_=>by rw[fG,VS,VS]
 | .ag cs,x=>by rw[fG,VS,VS];exact exists_congr λ_=>and_congr_right λ_=>da.rn r
 | .cq cs,x=>by rw[fG,VS,VS];exact exists_congr λ_=>and_congr_right λ_=>da.rn r
 | .fn g f c,x=>by rw[fG,VS,VS];exact exists_congr λ_=>exists_congr λ_=>and_congr_right λ_=>and_congr (da.rn r) (da.rn r)
 | .iface t v,x=>by rw[fG,VS,VS];exact exists_congr λ_=>and_congr_right λ_=>VS.rn r
def da.rn(r:Nat->Nat):∀{ds:List SV} {aS:List AV},da θ ρ (nr r ds) aS↔da (λp=>θ (r p)) ρ ds aS
 | [],aS=>by rw[nr,bj,bj]
 | d::ds,aS=>by rw[nr,aM,aM];exact exists_congr λ_=>exists_congr λ_=>and_congr_right λ_=>and_congr (VS.rn r) (da.rn r)
end
def yr(r:Nat->Nat):∀(f:Fm) (i:Nat),aP (Sw r f) i=fG r (aP f i)
 | [],i=>by rw[show aP [] i=.any from rfl,fG];rfl
 | (d,v)::f,i=>by
  show(if d=i then fG r v else aP (Sw r f) i)=fG r (if d=i then v else aP f i);rw[yr r f i];by_cases h:d=i
  ·rw[un h,un h]
  ·rw[ut h,ut h]
def FW{B:Nat}:∀{f:Fm} {i:Nat},FV B f=true->dG B (aP f i)=true
 | [],i,_=>by rw[show aP ([]:Fm) i=.any from rfl];simp[dG]
 | (d,v)::f,i,h=>by
  rw[FV,ac] at h;show dG B (if d=i then v else aP f i)=true;by_cases e:d=i
  ·rw[un e];exact h.1
  ·rw[ut e];exact FW h.2
def nH.rn(r:Nat->Nat){L:Loc}{so:SO}:nH θ ρ h L (qo r so)↔nH (λp=>θ (r p)) ρ h L so:=by
 cases so with
 | cells cs=>exact exists_congr λ_=>and_congr_right λ_=>and_congr_left λ_=>da.rn r
 | map ks vs b=>exact exists_congr λ_=>exists_congr λ_=>and_congr_right λ_=>and_congr_right λ_=>da.rn r
 | iter m bs c pos=>exact exists_congr λ_=>and_congr_left λ_=>VS.rn r
 | pI ks vs bs c pos=>exact Iff.rfl
 | gone=>exact Iff.rfl
 | loop c ls p f=>exact and_congr_right λ_=>and_congr_right λ_=>forall_congr' λi=>forall_congr' λ_=>by rw[yr];exact VS.rn r
 | nd N=>exact Iff.rfl
def fh{r:Nat->Nat}{so:SO}:qo r so≠.gone↔so≠.gone:=by
 cases so<;>simp[qo]
mutual
def VS.lR{B:Nat}(hθ:∀q,q<B->(θ' q).id=(θ q).id):∀{v:SV} {x:AV},dG B v=true->VS θ ρ v x->VS θ' ρ v x
 | .any,_,_,_=>by rw[VS];trivial
 | .a v,x,_,h=>by rw[VS] at h ⊢;exact h
 | .sl n e cs,x,_,h=>by rw[VS] at h ⊢;exact h
 | .im ks vs,x,_,h=>by rw[VS] at h ⊢;exact h
 | .ip cs,x,_,h=>by rw[VS] at h ⊢;exact h
 | .ptr p _,_,hn,h=>by rw[VS] at h ⊢;rw[dG] at hn;rw[hθ p (ww hn)];exact h
 | .map p,_,hn,h=>by rw[VS] at h ⊢;rw[dG] at hn;rw[hθ p (ww hn)];exact h
 | .buf p _ _ _,_,hn,h=>by rw[VS] at h ⊢;rw[dG] at hn;rw[hθ p (ww hn)];exact h
 | .sub p _ _ _ _,_,hn,h=>by rw[VS] at h ⊢;rw[dG] at hn;rw[hθ p (ww hn)];exact h
 | .e0 e,x,_,h=>by rw[VS] at h ⊢;exact h
 | .ag cs,x,hn,h=>by rw[VS] at h ⊢;rw[dG] at hn;obtain⟨aS,h1,h2⟩:=h;exact⟨aS,h1,da.lR hθ hn h2⟩
 | .cq cs,x,hn,h=>by rw[VS] at h ⊢;rw[dG] at hn;obtain⟨aS,h1,h2⟩:=h;exact⟨aS,h1,da.lR hθ hn h2⟩
 | .fn g f c,x,hn,h=>by
  rw[VS] at h ⊢;rw[dG,ac] at hn;obtain⟨xs,ys,h1,h2,h3⟩:=h;exact⟨xs,ys,h1,da.lR hθ hn.1 h2,da.lR hθ hn.2 h3⟩
 | .iface t v,x,hn,h=>by rw[VS] at h ⊢;rw[dG] at hn;obtain⟨y,h1,h2⟩:=h;exact⟨y,h1,VS.lR hθ hn h2⟩
def da.lR{B:Nat}(hθ:∀q,q<B->(θ' q).id=(θ q).id):∀{ds:List SV} {aS:List AV},je B ds=true->da θ ρ ds aS->da θ' ρ ds aS
 | [],aS,_,h=>by rw[bj] at h ⊢;exact h
 | d::ds,aS,hn,h=>by
  rw[aM] at h ⊢;rw[je,ac] at hn;obtain⟨a,r,h1,h2,h3⟩:=h;exact⟨a,r,h1,VS.lR hθ hn.1 h2,da.lR hθ hn.2 h3⟩
end
def nH.lR{B:Nat}(hθ:∀q,q<B->(θ' q).id=(θ q).id){L:Loc}{so:SO}(hn:mX B so=true)(hx:nH θ ρ h L so):nH θ' ρ h L so:=by
 cases so with
 | cells cs=>obtain⟨aS,h1,h2,h3⟩:=hx;exact⟨aS,h1,h2.lR hθ hn,h3⟩
 | map ks vs b=>obtain⟨l,c,h1,h2,h3⟩:=hx;exact⟨l,c,h1,h2,h3.lR hθ hn⟩
 | iter m bs c pos=>obtain⟨j9,h1,h2⟩:=hx;exact⟨j9,h1.lR hθ hn,h2⟩
 | pI ks vs bs c pos=>exact hx
 | gone=>trivial
 | loop c ls p f=>
  obtain⟨h1,h2,h3⟩:=hx;exact⟨h1,h2,λi hi=>(h3 i hi).lR hθ (FW hn)⟩
 | nd N=>exact hx
def FX{B:Nat}:∀{S:List SO} {i:Nat} {so:SO},vK B S=true->S[i]?=some so->mX B so=true
 | [],i,so,_,h=>by simp at h
 | s::l,0,so,hb,h=>by rw[vK,ac] at hb;simp only[ax,qr] at h;subst h;exact hb.1
 | s::l,i+1,so,hb,h=>by rw[vK,ac] at hb;exact FX hb.2 (by simpa using h)
def Iw(θ:Nat->Loc):List Nat->(Nat->Loc)->Nat->Loc
 | [],_=>θ
 | k::ks,θ'=>Iw (gY θ k (θ' k)) ks θ'
def yH:∀{ks:List Nat} {θ:Nat->Loc} {p:Nat},(p∈ks\/θ p=θ' p)->Iw θ ks θ' p=θ' p
 | [],θ,p,h=>by rcases h with h | h;(· simp at h);(· exact h)
 | k::ks,θ,p,h=>by
  rw[Iw];by_cases e:p=k
  ·subst e;exact yH (.inr (cA _ _ _))
  ·rcases h with h | h
   ·rcases t6 h with h | h
    ·exact ul h e
    ·exact yH (.inl h)
   ·exact yH (.inr (by rw[bU _ _ e];exact h))
def Ix:∀{ks:List Nat} {θ:Nat->Loc} {p:Nat},p∉ks->Iw θ ks θ' p=θ p
 | [],θ,p,h=>rfl
 | k::ks,θ,p,h=>by
  rw[Iw,Ix (λe=>h (b0 _ e)),bU _ _ (λe=>h (by rw[e];exact b9))]
def GJ:∀{ks:List Nat} {θ:Nat->Loc} {v:SV} {x:AV},VS θ ρ v x->VS (Iw θ ks θ') ρ (np ks v) x
 | [],θ,v,x,h=>h
 | k::ks,θ,v,x,h=>by
  rw[Iw,np];exact GJ (jj (θ':=gY θ k (θ' k)) (λp hp=>bU _ _ hp) h)
def zu:∀(ks:List Nat) (f:Fm) (i:Nat),aP (oD ks f) i=np ks (aP f i)
 | [],f,i=>rfl
 | k::ks,f,i=>by rw[oD,np,zu ks,iN]
def jB:∀(ks:List Nat) (S:List SO),(gw ks S).length=S.length
 | [],S=>rfl
 | k::ks,S=>by rw[gw,jB ks];unfold eC;rw[aY]
def MY{f g:SV->SV}(so:SO):tj f (tj g so)=tj (λv=>f (g v)) so:=by cases so<;>simp[tj]
def Ar:∀(ks:List Nat) (S:List SO) (p:Nat),(gw ks S)[p]?=(S[p]?).map (tj (np ks))
 | [],S,p=>by
  show S[p]?=_
  cases S[p]? with
  | none=>rfl
  | some s=>rw[m6];exact rc some (uA s).symm
 | k::ks,S,p=>by
  rw[gw,Ar ks,rU]
  cases S[p]? with
  | none=>rfl
  | some s=>simp only[m6,MY];rfl
def C3:∀{os:List Nat} {S ss:List SO} (p:Nat),os.Nodup->(∀o∈os,o<S.length)->os.length<=ss.length->
 (∀i:Nat,os[i]?=some p->(gU S os ss)[p]?=ss[i]?)/\(p∉os->p<S.length->(gU S os ss)[p]?=S[p]?)/\(S.length<=p->(gU S os ss)[p]?=ss[os.length+(p-S.length)]?)
 | [],S,ss,p,_,_,_=>by
  refine⟨λi h=>by simp at h,λ_ hl=>?_,λhl=>?_⟩
  ·rw[gU,List.getElem?_append_left hl]
  ·rw[gU,b6 hl,i5,a9]
 | o::os,S,[],p,_,_,hl=>by simp at hl
 | o::os,S,s::ss,p,hn,ho,hl=>by
  rw[List.nodup_cons] at hn;have ih:=C3 (os:=os) (S:=S.set o s) (ss:=ss) p hn.2 (λx hx=>by rw[c6];exact ho x (b0 _ hx)) (by simpa using hl);have hol:=ho o b9;rw[c6] at ih;refine⟨λi h=>?_,λh1 h2=>?_,λh1=>?_⟩
  ·cases i with
   | zero=>
    simp only[ax,qr] at h;subst h;rw[gU,ih.2.1 hn.1 hol,ay hol];rfl
   | succ i=>
    simp only[ap] at h;rw[gU,ih.1 i h];rfl
  ·rw[gU,ih.2.1 (λe=>h1 (b0 _ e)) h2,a0 (λe=>h1 (by rw[e];exact b9))]
  ·rw[gU,ih.2.2 h1,i7,show os.length+1+(p-S.length)=os.length+(p-S.length)+1 by omega,ap]
def SC(P:Program)(g:FuncId)(args:List SV)(S0:List SO)(mv:List Nat)(Q:SV->List SO->Prop):Prop:=
 ∀(E:En) θ ρ h avs,E.h={ h with low:=h.next }->RS θ ρ ρ E E.h S0->da θ ρ args avs->
  ef P (.func g) avs h (λv h'=>∃r S' θ' ρ' h1,Q r S'/\h'={ h1 with low:=iA h.low h1.low }/\RS θ' ρ ρ' E h1 S'/\VS θ' ρ' r v/\S0.length<=S'.length/\∀i,i<S0.length->i∉mv->(θ' i).id=(θ i).id)
end
end
end Go.Ev
