/- Lemmas of this claim, each with its conditions. -/
import Derived.Test.YtjiejanfnnieaaaGreatR2
import Derived.Test.YtjiejanfnnieaaaGreatProg
set_option linter.all false
open Nat (beq ble blt)
open Int (ofNat)
open List (mem_map)
open Nat renaming beq_refl -> aa, lt_of_lt_of_le -> aj, mul_le_mul_right -> a9, le_trans -> bb, zero_add -> bc, zero_le -> bd, min_eq_left -> bi, le_refl -> bw, lt_succ_self -> bF, zero_mul -> bN, lt_irrefl -> cd, le_succ_of_le -> co, sub_zero -> c0, sub_self -> d2, succ_mul -> d3
open Bool renaming and_eq_true -> ac, and_self -> ad, not_false -> aT, true_and -> b8, true_or -> cn, and_true -> cp, or_false -> dE
open List renaming map_cons -> am, getElem?_cons_succ -> ap, getElem?_cons_zero -> ax, getElem?_set_self -> ay, length_map -> a0, getElem?_set_ne -> a3, drop_drop -> a4, eraseIdx_cons_succ -> a5, getElem?_map -> a6, getElem?_eq_none -> a7, length_replicate -> a8, getElem?_append_right -> ba, length_drop -> bh, take_zero -> bk, drop_of_length_le -> bq, map_append -> bt, map_nil -> bv, drop_zero -> b6, mem_cons_of_mem -> b7, mem_cons_self -> b9, drop_take -> cb, take_take -> cc, take_of_length_le -> ce, length_take -> ch, all_cons -> ci, getElem?_append -> cl, eraseIdx_nil -> ct, flatMap_cons -> cv, head?_drop -> c5, length_set -> c6, nil_append -> dc, mapM_cons -> dd, replicate -> dv, take_one -> d0
open And renaming intro -> be
open Go.Proofs.Tryz renaming prog -> b0
namespace Go.Ev
noncomputable section
def uC:AV->SV
 | .agg cs=>.ag (cs.map .a)
 | v=>.a v
def cP:SV->Option (List SV)
 | .any=>none
 | .ag cs=>some cs
 | .a (.agg cs)=>some (cs.map .a)
 | v=>some [v]
def eP:SV->Bool
 | .any=>false
 | .a v=>ki v
 | .ag _=>false
 | .cx _=>false
 | _=>true
def aP(o:Nat)(v:SV):SV:=cond (names o v) .any v
def dB(o:Nat)(f:Fm):Fm:=f.map λp=>(p.1,aP o p.2)
def bW(o:Nat):SO->SO
 | .cells cs=>.cells (cs.map (aP o))
 | .map ks vs b=>.map ks (vs.map (aP o)) b
 | .iter m bs c pos=>.iter (aP o m) bs c pos
 | .oR ks vs bs c pos=>.oR ks vs bs c pos
 | .gone=>.gone
 | .loop c ls p f=>.loop c ls p (dB o f)
 | .mA N=>.mA N
def eW(f:Fm):Operand->Option SV
 | .tmp i=>if i<1000000 then some (aO f i) else none
 | .const v=>(lZ mP v).map uC
 | .func g=>some (.fn g [] [])
 | .global _=>none
def qe(f:Fm):List Operand->Option (List SV)
 | []=>some []
 | x::l=>(eW f x).bind λa=>(qe f l).map λb=>a::b
def lQ(f:Fm):List (Nat×Operand)->Option (List (Nat×SV))
 | []=>some []
 | (i,x)::l=>(eW f x).bind λa=>(lQ f l).map λb=>(i,a)::b
def xl(f:Fm):Option Operand->Option (Option AV)
 | none=>some none
 | some x=>match eW f x with
  | some (.a v)=>some (some v)
  | _=>none
def qC{α:Type}(p:Prop)[Decidable p](x:Option α):Option α:=if p then x else none
def HL(P:Program)(t:TypeId):Option (Nat×Bool):=(qO P t).bind λb=>(cF P t).map λn=>(n,b)
def Ir(P:Program)(s:TypeId)(f:Nat):Option (Nat×TypeId×Nat):=match P.underlying s with
 | some (.struct fs)=>cond (fs.toList.all λf=>(cF P f.type).isSome) ((fs[f]?).bind λfd=>(cF P fd.type).map λn=>(fd.offset,fd.type,n)) none
 | _=>none
def Qk(P:Program)(t:TypeId):Option (Option Nat):=match P.underlying t with
 | some (.struct fs)=>cond (fs.toList.all λf=>(cF P f.type).isSome) (some none) none
 | some (.array _ e)=>(cF P e).map some
 | _=>none
def Ih(P:Program)(t:TypeId):Option (TypeId×Nat):=match P.underlying t with
 | some (.slice e)=>(cF P e).map λs=>(e,s)
 | _=>none
def RV(P:Program)(t:TypeId):Option (Nat×TypeId×Nat):=match P.underlying t with
 | some (.array n e)=>(cF P e).map λs=>(n,e,s)
 | _=>none
inductive TK where
 | str | sl | map | other
def jc(P:Program)(t:TypeId):TK:=match P.underlying t with
 | some .string=>.str
 | some (.slice _)=>.sl
 | some (.map _ _)=>.map
 | _=>.other
def tX(P:Program)(t:TypeId)(cs:List SV)(off:Nat):Option SV:=(HL P t).bind λq=>match q.2 with
 | true=>qC (off+q.1<=cs.length) (some (.ag ((cs.drop off).take q.1)))
 | false=>cs[off]?
def tF(place:Nat->Option (Nat×Nat))(cells:List SV):List (Nat×SV)->Option (List SV)
 | []=>some cells
 | (i,v)::rest=>match place i with
  | none=>none
  | some (off,size)=>(cP v).bind λcs=>
   qC (cs.length=size/\off+size<=cells.length) (tF place (cells.take off++(cs++cells.drop (off+size))) rest)
def C7(P:Program)(t:TypeId)(parts:List (Nat×SV)):Option SV:=
 (di P t).bind λz=>(Qk P t).bind λq=>match q with
  | none=>(tF (λi=>(Ir P t i).map λq=>(q.1,q.2.2)) (z.cells.map .a) parts).map .ag
  | some s=>(tF (λi=>some (i*s,s)) (z.cells.map .a) parts).map .ag
def nH(P:Program)(t:TypeId)(len:Nat)(parts:List (Nat×SV)):Option (Nat×List SV):=
 (Ih P t).bind λq=>(di P q.1).bind λz=>
  qC (len*q.2<=16777216/\z.cells.length=q.2/\q.2≠0)
   ((tF (λi=>some (i*q.2,q.2)) ((rep z.cells len).map .a) parts).map λcs=>(q.2,cs))
mutual
def cR:SV->Option AV
 | .a v=>some v
 | .ag cs=>(iY cs).map .agg
 | .iface t v=>(cR v).map (.iface t)
 | _=>none
def iY:List SV->Option (List AV)
 | []=>some []
 | d::ds=>(cR d).bind λa=>(iY ds).map λb=>a::b
end
def IL:SV->Option Nat
 | .a v=>df v
 | _=>none
def tJ(P:Program)(kt:TypeId)(k:AV):List AV->Nat->Option (Option Nat)
 | [],_=>some none
 | e::es,i=>match lG P 4 kt k e with
  | some true=>some (some i)
  | some false=>tJ P kt k es (i+1)
  | none=>none
def A6(S:List SO):SV->Option (List AV×List SV)
 | .map o=>match S[o]? with
  | some (.map ks vs _)=>some (ks,vs)
  | _=>none
 | .im ks vs=>some (ks,vs)
 | .a (.map none)=>some ([],[])
 | _=>none
def jm(P:Program)(S:List SO)(t:TypeId)(x k:SV)(ok:Bool):Option SV:=
 (dw P t).bind λ(kt,et)=>(cR k).bind λk=>cond (xg P kt k)
  ((A6 S x).bind λ(ks,vs)=>(tJ P kt k ks 0).bind λr=>
   let v:Option (SV×Bool):=match r with
    | some i=>(vs[i]?).map λe=>(e,true)
    | none=>(di P et).map λz=>(uC z,false)
   v.map λ(v,b)=>cond ok (.cx [v,.a (.bool b)]) v) none
def iF(P:Program)(S:List SO)(t:TypeId)(x k v:SV):Option (List SO):=
 (dw P t).bind λ(kt,_)=>(cR k).bind λk=>cond (xg P kt k)
  (
   match x with
   | .map o=>match S[o]? with
    | some (.map ks vs b)=>(tJ P kt k ks 0).bind λr=>match r with
     | some i=>(ks[i]?).bind λk0=>cond (stays k k0) (some (S.set o (.map (ks.set i k) (vs.set i v) b))) none
     | none=>some (S.set o (.map (ks++[k]) (vs++[v]) (b.map λp=>(p.1++[p.2],p.2+1))))
    | _=>none
   | _=>none) none
def LF(P:Program)(S:List SO)(t:TypeId)(x k:SV):Option (List SO):=
 (dw P t).bind λ(kt,_)=>(cR k).bind λk=>cond (xg P kt k)
  (
   match x with
   | .map o=>match S[o]? with
    | some (.map ks vs b)=>(tJ P kt k ks 0).map λr=>match r with
     | some i=>S.set o (.map (ks.eraseIdx i) (vs.eraseIdx i) (b.map λp=>(p.1.eraseIdx i,p.2)))
     | none=>S
    | _=>none
   | _=>none) none
def zh(P:Program)(S:List SO)(t:TypeId)(x:SV):Option Nat:=match jc P t,x with
 | .str,.a (.str s)=>some s.length
 | .sl,.sl n _ _=>some n
 | .sl,.buf _ n _ _=>some n
 | .sl,.a (.slice none n _ _)=>some n
 | .map,x=>(A6 S x).map λe=>e.1.length
 | .sl,.sub _ _ n _ _=>some n
 | .sl,.e0 _=>some 0
 | _,_=>none
def um(S:List SO)(s:Nat):SV->Option (Nat×List SV)
 | .sl n e cs=>qC (e=s) (some (n,cs))
 | .buf o n e _=>match S[o]? with
  | some (.cells cs)=>qC (e=s/\n*s<=cs.length) (some (n,cs.take (n*s)))
  | _=>none
 | .a (.slice none 0 0 (some 0))=>some (0,[])
 | .sub o off n e _=>match S[o]? with
  | some (.cells cs)=>qC (e=s/\off+n*s<=cs.length) (some (n,(cs.drop off).take (n*s)))
  | _=>none
 | .e0 _=>some (0,[])
 | _=>none
def dh(o:Nat)(S:List SO):List SO:=S.map (bW o)
def eJ(S:List SO)(so:SO):List SO:=dh S.length S++[bW S.length so]
def pG(P:Program)(e:TypeId):Bool:=match P.info? e with
 | some i=>ble i.bytes 10000
 | none=>false
def Nn(S:List SO):SV->Option (SV×List SO×Option Nat)
 | .a (.slice none 0 0 (some 0))=>some (.a (.slice none 0 0 (some 0)),S,none)
 | .buf o n e c=>qC (n<=1000000) (some (.buf o n e c,S,none))
 | .e0 e=>some (.e0 e,S,none)
 | _=>none
def Lj(S:List SO)(s:Nat)(x:SV)(p:Nat×List SV):Option (SV×List SO×Option Nat):=match x with
 | .a (.slice none 0 0 (some 0))=>some (.buf S.length p.1 s none,eJ S (.cells p.2),some S.length)
 | .buf o n es none=>match S[o]? with
  | some (.cells cs)=>qC (es=s/\n<=1000000/\n*es<=cs.length)
   (some (.buf o (n+p.1) es none,(dh o S).set o (bW o (.cells (cs.take (n*es)++p.2))),some o))
  | _=>none
 | .e0 e=>qC (e=s) (some (.buf S.length p.1 s none,eJ S (.cells p.2),some S.length))
 | .buf o n es (some c)=>match S[o]? with
  | some (.cells cs)=>qC (es=s/\n<=1000000/\n*es<=cs.length/\c<n+p.1)
   (some (.buf S.length (n+p.1) es none,eJ S (.cells (cs.take (n*es)++p.2)),some S.length))
  | _=>none
 | _=>none
def isInt(P:Program)(t:TypeId):Bool:=match P.underlying t with
 | some (.int _)=>true
 | _=>false
def xV(P:Program)(S:List SO)(xt:TypeId)(s:Nat)(z:AV)(y:SV):Option (Nat×List SV):=match jc P xt with
 | .sl=>um S s y
 | .other=>cond (isInt P xt) ((IL y).bind λn=>qC (n<=1000000) (some (n,(rep z.cells n).map .a))) none
 | _=>none
def xB(P:Program)(S:List SO)(st xt:TypeId)(x y:SV):Option (SV×List SO×Option Nat):=
 (Ih P st).bind λq=>(di P q.1).bind λz=>qC (z.cells.length=q.2/\q.2≠0/\pG P q.1=true)
  ((xV P S xt q.2 z y).bind λp=>if p.1=0 then Nn S x else qC (p.1<=1000000/\p.2.all eP=true) (Lj S q.2 x p))
def Be(isMax:Bool):SV->List SV->Option SV
 | x,[]=>some x
 | .a x,.a y::l=>(zF isMax x y).bind λz=>Be isMax (.a z) l
 | _,_=>none
def TN:SV->Option (Nat×Nat×Nat×Nat)
 | .buf o n e _=>some (o,0,n,e)
 | .sub o off n e _=>some (o,off,n,e)
 | _=>none
def NR(S:List SO)(s o off des:Nat)(rows:List SV)(n:Nat):Option (SV×List SO×Option Nat):=
 if n=0 then some (.a (.int .i64 0),S,none) else match S[o]? with
  | some (.cells cs)=>qC (des=s/\off+n*s<=cs.length/\n*s<=rows.length/\(rows.take (n*s)).all eP=true)
   (some (.a (.int .i64 (n:Nat)),S.set o (.cells (cs.take off++(rows.take (n*s)++cs.drop (off+n*s)))),none))
  | _=>none
def Ke(P:Program)(S:List SO)(t:TypeId)(x y:SV):Option (SV×List SO×Option Nat):=(Ih P t).bind λq=>(TN x).bind λ(o,off,dl,des)=>(um S q.2 y).bind λp=>
 NR S q.2 o off des p.2 (Nat.min p.1 dl)
def Da(P:Program)(S:List SO)(t:TypeId)(x:SV):Option (SV×List SO×Option Nat):=(Ih P t).bind λq=>(di P q.1).bind λz=>(TN x).bind λ(o,off,n,es)=>
 if n=0 then some (.a lV,S,none) else match S[o]? with
  | some (.cells cs)=>qC (es=q.2/\z.cells.length=q.2/\off+n*q.2<=cs.length/\(rep z.cells n).all ki=true)
   (some (.a lV,S.set o (.cells (cs.take off++((rep z.cells n).map .a++cs.drop (off+n*q.2)))),none))
  | _=>none
def H8:SV->Option Nat
 | .a (.slice none 0 0 (some 0))=>some 0
 | .buf _ _ _ (some c)=>some c
 | .sub _ _ _ _ (some c)=>some c
 | .e0 _=>some 0
 | _=>none
def gS(P:Program)(S:List SO)(b:Builtin)(ats:List TypeId)(xs:List SV):Option (SV×List SO×Option Nat):=match b,ats,xs with
 | .append,st::xt::_,[x,y]=>xB P S st xt x y
 | .len,t::_,x::_=>(zh P S t x).map λ(n:Nat)=>((SV.a (.int .i64 (n:Int)),S,none):SV×List SO×Option Nat)
 | .min,_,x::l=>(Be false x l).map λv=>(v,S,none)
 | .max,_,x::l=>(Be true x l).map λv=>(v,S,none)
 | .delete,t::_,x::k::_=>(LF P S t x k).map λS=>(.a lV,S,none)
 | .copy,dt::_,[x,y]=>Ke P S dt x y
 | .clear,t::_,[x]=>Da P S t x
 | .cap,t::_,[x]=>(Ih P t).bind λ_=>(H8 x).map λ(c:Nat)=>((SV.a (.int .i64 (c:Int)),S,none):SV×List SO×Option Nat)
 | _,_,_=>none
def KK:Option SV->Option SV->Option SV->Option SV
 | some (.a (.bool z)),some x,some y=>some (cond z x y)
 | _,_,_=>none
def zk(P:Program)(S:List SO)(tt:TypeId):SV->Option SV
 | .ptr o off=>match S[o]? with
  | some (.cells cs)=>tX P tt cs off
  | _=>none
 | .ip cs=>tX P tt cs 0
 | _=>none
def D3(P:Program)(S:List SO)(tt:TypeId)(a x:SV):Option (List SO):=match a with
 | .ptr o off=>match S[o]? with
  | some (.cells cs)=>(HL P tt).bind λq=>(cP x).bind λvs=>
   qC (vs.length=q.1/\off+q.1<=cs.length/\vs.all eP=true) (some (S.set o (.cells (cs.take off++(vs++cs.drop (off+q.1))))))
  | _=>none
 | _=>none
def bH(P:Program):SV->Option SV
 | .ptr o off=>some (.ptr o off)
 | .ip cs=>some (.ip cs)
 | .fn g a b=>some (.fn g a b)
 | .sl n e cs=>some (.sl n e cs)
 | .buf o n e c=>some (.buf o n e c)
 | .sub o off n e c=>some (.sub o off n e c)
 | .e0 e=>some (.e0 e)
 | .a (.fn (.method nm) [.iface t v] ys)=>(jn P t nm).map λ_=>.a (.fn (.method nm) [.iface t v] ys)
 | _=>none
def pK(P:Program)(s:TypeId)(x:SV)(f:Nat):Option SV:=(Ir P s f).bind λq=>qC (q.2.2≠0) (match x with
 | .ptr o off=>some (.ptr o (off+q.1))
 | .ip cs=>qC (q.1<=cs.length) (some (.ip (cs.drop q.1)))
 | _=>none)
def yJ(P:Program)(s:TypeId)(x:SV)(f:Nat):Option SV:=match x with
 | .ag cs=>(Ir P s f).bind λq=>tX P q.2.1 cs q.1
 | _=>none
def pQ(P:Program)(t:TypeId)(x:SV)(i:SV):Option SV:=(IL i).bind λi=>match RV P t with
 | some q=>qC (i<q.1) (match x with
  | .ptr o off=>some (.ptr o (off+i*q.2.2))
  | .ip cs=>qC (i*q.2.2<=cs.length) (some (.ip (cs.drop (i*q.2.2))))
  | _=>none)
 | none=>(Ih P t).bind λq=>match x with
  | .sl n es cs=>qC (i<n/\q.2=es) (some (.ip ((cs.drop (i*q.2)).take q.2)))
  | .buf o n es _=>qC (i<n/\q.2=es) (some (.ptr o (i*q.2)))
  | .sub o off n es _=>qC (i<n/\q.2=es) (some (.ptr o (off+i*q.2)))
  | _=>none
def Dw(P:Program)(t:TypeId)(x:SV)(i:SV):Option SV:=(IL i).bind λi=>match x with
 | .ag cs=>(RV P t).bind λq=>qC (i<q.1) (tX P q.2.1 cs (i*q.2.2))
 | .a (.str s)=>match jc P t with
  | .str=>(s[i]?).map λb=>.a (.int .u8 (ofNat b))
  | _=>none
 | _=>none
def nk(P:Program)(t:TypeId)(x:SV)(lo hi mx:Option AV):Option SV:=match jc P t,x with
 | .str,.a (.str s)=>match mx with
  | some _=>none
  | none=>(cO s.length (some s.length) lo hi none).map λ(l,hh,_)=>.a (.str ((s.drop l).take (hh-l)))
 | .sl,.sl n es cs=>match mx with
  | some m=>(Ih P t).bind λq=>qC (lo=none/\hi.bind df=some 0/\df m=some 0/\q.2=es) (some (.e0 q.2))
  | none=>(Ih P t).bind λq=>(cO n none lo hi none).bind λ(l,hh,_)=>qC (q.2=es) (some (.sl (hh-l) q.2 ((cs.drop (l*q.2)).take ((hh-l)*q.2))))
 | .sl,.buf o n es c=>match mx with
  | some _=>none
  | none=>(Ih P t).bind λq=>(cO n c lo hi none).bind λ(l,hh,m)=>qC (q.2=es) (some (match lo with
   | none=>.buf o (hh-l) q.2 (bD m l)
   | some _=>.sub o (l*q.2) (hh-l) q.2 (bD m l)))
 | .sl,.sub o off n es c=>match mx with
  | some _=>none
  | none=>(Ih P t).bind λq=>(cO n c lo hi none).bind λ(l,hh,m)=>qC (q.2=es) (some (.sub o (off+l*q.2) (hh-l) q.2 (bD m l)))
 | .sl,.a (.slice none 0 0 (some 0))=>(Ih P t).bind λ_=>(cO 0 (some 0) lo hi mx).map λ_=>.a (.slice none 0 0 (some 0))
 | .sl,.e0 e=>(Ih P t).bind λq=>(cO 0 (some 0) lo hi mx).bind λ(l,hh,m)=>qC (l=0/\hh=0/\m=some 0/\q.2=e) (some (.e0 e))
 | _,_=>none
def Kr(P:Program)(t:TypeId):Bool:=match P.underlying t with
 | some (.interface _)=>false
 | some _=>true
 | none=>false
def dk(P:Program)(f:Fm)(S:List SO)(op:Op):Option (SV×List SO×Option Nat):=match op with
 | .move x=>(eW f x).map λv=>(v,S,none)
 | .assign x=>(eW f x).map λv=>(v,S,none)
 | .pick c a b=>(KK (eW f c) (eW f a) (eW f b)).map λv=>(v,S,none)
 | .alloc e=>(di P e).map λz=>(.ptr S.length 0,eJ S (.cells (z.cells.map .a)),some S.length)
 | .box _ x=>(eW f x).bind λv=>(cP v).map λcs=>(.ptr S.length 0,eJ S (.cells cs),some S.length)
 | .build tt ps=>(lQ f ps.toList).bind λl=>(C7 P tt l).map λv=>(v,S,none)
 | .buildSlice tt n ps=>(lQ f ps.toList).bind λl=>(nH P tt n l).map λq=>(.buf S.length n q.1 (some n),eJ S (.cells q.2),some S.length)
 | .makeMap _ none=>some (.map S.length,eJ S (.map [] [] none),some S.length)
 | .makeSlice tt l c=>match eW f l,eW f c with
  | some (.a l),some (.a c)=>(kK P tt l c).map λq=>(.buf S.length q.1 q.2.1 (some q.2.2.1),eJ S (.cells (q.2.2.2.map .a)),some S.length)
  | _,_=>none
 | .load tt a=>(eW f a).bind λa=>(zk P S tt a).map λv=>(v,S,none)
 | .store tt a x=>(eW f a).bind λa=>(eW f x).bind λx=>(D3 P S tt a x).map λS=>(.a lV,S,none)
 | .nilCheck x=>(eW f x).bind λx=>(bH P x).map λv=>(v,S,none)
 | .binOp op t x y _=>(eW f x).bind λx=>(eW f y).bind λy=>(cR x).bind λx=>(cR y).bind λy=>(c8 P op t x y).map λv=>(.a v,S,none)
 | .unOp op _ x=>(eW f x).bind λx=>(cR x).bind λx=>(TG op x).map λv=>(.a v,S,none)
 | .convert s d x=>(eW f x).bind λx=>(cR x).bind λx=>(lf P s d x).map λv=>(.a v,S,none)
 | .makeInterface t x=>cond (Kr P t) ((eW f x).map λv=>(.iface t v,S,none)) none
 | .makeFunc (.func g) first cap=>(qe f first.toList).bind λa=>(qe f cap.toList).map λb=>(.fn g a b,S,none)
 | .slice tt x lo hi mx=>(eW f x).bind λx=>(xl f lo).bind λlo=>(xl f hi).bind λhi=>(xl f mx).bind λmx=>(nk P tt x lo hi mx).map λv=>(v,S,none)
 | .fieldAddr s x fl=>(eW f x).bind λx=>(pK P s x fl).map λv=>(v,S,none)
 | .field s x fl=>(eW f x).bind λx=>(yJ P s x fl).map λv=>(v,S,none)
 | .indexAddr t x i=>(eW f x).bind λx=>(eW f i).bind λi=>(pQ P t x i).map λv=>(v,S,none)
 | .index t x i=>(eW f x).bind λx=>(eW f i).bind λi=>(Dw P t x i).map λv=>(v,S,none)
 | .lookup t x k ok=>(eW f x).bind λx=>(eW f k).bind λk=>(jm P S t x k ok).map λv=>(v,S,none)
 | .mapUpdate t m k x=>(eW f m).bind λm=>(eW f k).bind λk=>(eW f x).bind λx=>(iF P S t m k x).map λS=>(.a lV,S,none)
 | .insert t m k x=>(eW f m).bind λm=>(eW f k).bind λk=>(eW f x).bind λx=>(iF P S t m k x).map λS=>(.a lV,S,none)
 | .extract x i=>match eW f x with
  | some (.cx vs)=>(vs[i]?).map λv=>(v,S,none)
  | _=>none
 | .call { callee:=.builtin b,args:=aS,argTypes:=ats }=>(qe f aS.toList).bind λxs=>gS P S b ats.toList xs
 | .makeFunc (.method nm) first cap=>(qe f first.toList).bind λa=>(iY a).bind λa=>(qe f cap.toList).bind λb=>(iY b).map λb=>(.a (.fn (.method nm) a b),S,none)
 | _=>none
def jS(k:Option Nat)(v:SV):SV:=match k with
 | none=>v
 | some o=>aP o v
def lL(f:Fm)(kill:Option Nat):Fm:=match kill with
 | none=>f
 | some o=>dB o f
def pN(f:Fm)(kill:Option Nat)(dst:Option Tmp)(v:SV):Fm:=match dst with
 | none=>lL f kill
 | some d=>(d,v)::lL f kill
section
variable {θ:Nat->Loc} {ρ:ko} {P:Program}
theorem cZ.a:∀(aS:List AV),cZ θ ρ (aS.map .a) aS
 | []=>by rw[bv,aZ]
 | a::aS=>by rw[am,aK];exact⟨a,aS,rfl,by rw[VS],cZ.a aS⟩
def As(v:AV):VS θ ρ (uC v) v:=by
 unfold uC;split
 ·rw[VS];exact⟨_,rfl,cZ.a _⟩
 ·rw[VS]
variable{f:Fm}{af:Nat->AV}{n:Nat}{wv:Nat->AV}{v:SV}
def bO(hF:FR θ ρ (aO f) af n wv){x:Operand}(h:eW f x=some v):∃a,ev (eo af n) x=some a/\VS θ ρ v a:=by
 cases x with
 | tmp i=>
  simp only[eW] at h
  have hlim:i<1000000:=by
   apply Decidable.byContradiction;intro hn;rw[v6 hn] at h;cases h
  rw[ut hlim] at h;cases h;have:=hF.v i;by_cases hi:i<n
  ·rw[ut hi] at this;exact⟨_,SU hi,this⟩
  ·rw[v6 hi,hF.u i hlim] at this
   exact⟨lV,by
    have:(eo af n).get i=none:=Aw af n i (Nat.le_of_not_lt hi)
    simp only[ev,this],this⟩
 | const c=>
  simp only[eW] at h;obtain⟨a,ha,rfl⟩:=az h;exact⟨a,ha,As a⟩
 | func g=>
  simp only[eW,qr] at h;subst h;exact⟨_,QF,by rw[VS];exact⟨[],[],rfl,by rw[aZ],by rw[aZ]⟩⟩
 | global g=>simp[eW] at h
def mq{f:Fm}{af:Nat->AV}{n:Nat}{wv:Nat->AV}(hF:FR θ ρ (aO f) af n wv):∀{l:List Operand} {vs:List SV},qe f l=some vs->∃aS,A7 (eo af n) l=some aS/\cZ θ ρ vs aS
 | [],vs,h=>by
  simp only[qe,qr] at h;subst h;exact⟨[],rfl,by rw[aZ]⟩
 | x::l,vs,h=>by
  rw[qe] at h;obtain⟨v,hv,h⟩:=ul h;obtain⟨ws,hw,rfl⟩:=az h;obtain⟨a,ha,ka⟩:=bO hF hv;obtain⟨aS,hs,ks⟩:=mq hF hw;exact⟨a::aS,by rw[N4,ha,hs];rfl,by rw[aK];exact⟨a,aS,rfl,ka,ks⟩⟩
def TW(θ:Nat->Loc)(ρ:ko):List (Nat×SV)->List (Nat×AV)->Prop
 | [],aS=>aS=[]
 | (i,v)::l,aS=>∃a r,aS=(i,a)::r/\VS θ ρ v a/\TW θ ρ l r
def vQ{f:Fm}{af:Nat->AV}{n:Nat}{wv:Nat->AV}(hF:FR θ ρ (aO f) af n wv):∀{l:List (Nat×Operand)} {vs:List (Nat×SV)},lQ f l=some vs->∃aS,lP (eo af n) l=some aS/\TW θ ρ vs aS
 | [],vs,h=>by
  simp only[lQ,qr] at h;subst h;exact⟨[],rfl,rfl⟩
 | (i,x)::l,vs,h=>by
  rw[lQ] at h;obtain⟨v,hv,h⟩:=ul h;obtain⟨ws,hw,rfl⟩:=az h;obtain⟨a,ha,ka⟩:=bO hF hv;obtain⟨aS,hs,ks⟩:=vQ hF hw;exact⟨(i,a)::aS,by rw[GB,ha,hs];rfl,a,aS,rfl,ka,ks⟩
def D1(hF:FR θ ρ (aO f) af n wv){o:Option Operand}{v:Option AV}(h:xl f o=some v):N3 (eo af n) o=some v:=by
 cases o with
 | none=>simp only[xl,qr] at h;subst h;rfl
 | some x=>
  simp only[xl] at h;split at h
  ·rename_i w hw;cases h;obtain⟨a,ha,ka⟩:=bO hF hw;rw[VS] at ka;subst ka;simp only[N3,ha,m6]
  ·cases h
def cells_one{v:AV}(h:∀cs,v≠.agg cs):v.cells=[v]:=by
 cases v<;>first | rfl | exact un rfl (h _)
variable{x:AV}{cs:List SV}
def vb(hv:VS θ ρ v x)(h:cP v=some cs):cZ θ ρ cs x.cells:=by
 have one:∀{w:SV},VS θ ρ w x->(∀cs,x≠.agg cs)->cZ θ ρ [w] x.cells:=by
  intro w hw hx;rw[cells_one hx,aK];exact⟨x,[],rfl,hw,by rw[aZ]⟩
 cases v with
 | any=>simp[cP] at h
 | a v=>
  have hv':=hv;rw[VS] at hv;subst hv
  cases x with
  | agg cs'=>simp only[cP,qr] at h;subst h;exact cZ.a _
  | _=>simp only[cP,qr] at h;subst h;exact one hv' (λ_ h=>by cases h)
 | ag cs'=>
  simp only[cP,qr] at h;subst h;rw[VS] at hv;obtain⟨aS,rfl,h2⟩:=hv;exact h2
 | sl n e cs'=>
  simp only[cP,qr] at h;subst h;refine one hv ?_;rw[VS,GS] at hv
  rcases hv with⟨_,_,o,e',c,rfl,_,_⟩ | ⟨id,off,cap,row,rfl,_⟩<;>exact λ_ h=>by cases h
 | im ks vs=>
  simp only[cP,qr] at h;subst h;refine one hv ?_;rw[VS,GS] at hv;obtain⟨id,l,c,rfl,_⟩:=hv
  exact λ_ h=>by cases h
 | ip cs'=>
  simp only[cP,qr] at h;subst h;refine one hv ?_;rw[VS,GS] at hv;obtain⟨id,off,row,r,rfl,_⟩:=hv
  exact λ_ h=>by cases h
 | ptr o off=>
  simp only[cP,qr] at h;subst h;refine one hv ?_
  rw[VS] at hv;subst hv;exact λ_ h=>by cases h
 | map o=>
  simp only[cP,qr] at h;subst h;refine one hv ?_
  rw[VS] at hv;subst hv;exact λ_ h=>by cases h
 | buf o n e c=>
  simp only[cP,qr] at h;subst h;refine one hv ?_
  rw[VS] at hv;subst hv;exact λ_ h=>by cases h
 | sub o off n e c=>
  simp only[cP,qr] at h;subst h;refine one hv ?_
  rw[VS] at hv;subst hv;exact λ_ h=>by cases h
 | e0 e=>
  simp only[cP,qr] at h;subst h;refine one hv ?_
  rw[VS] at hv;obtain⟨o,e',rfl,_⟩:=hv;exact λ_ h=>by cases h
 | cx vs=>
  simp only[cP,qr] at h;subst h;refine one hv ?_
  rw[VS] at hv;obtain⟨aS,rfl,_⟩:=hv;exact λ_ h=>by cases h
 | fn g a b=>
  simp only[cP,qr] at h;subst h;refine one hv ?_
  rw[VS] at hv;obtain⟨aS,bs,rfl,_⟩:=hv;exact λ_ h=>by cases h
 | iface t v=>
  simp only[cP,qr] at h;subst h;refine one hv ?_
  rw[VS] at hv;obtain⟨y,rfl,_⟩:=hv;exact λ_ h=>by cases h
def Rh(hv:VS θ ρ v x)(h:eP v=true):ki x=true:=by
 cases v with
 | any=>simp[eP] at h
 | a v=>rw[VS] at hv;subst hv;exact h
 | ag cs=>simp[eP] at h
 | cx cs=>simp[eP] at h
 | sl n e cs=>rw[VS,GS] at hv;rcases hv with⟨_,_,o,e',c,rfl,_,_⟩ | ⟨id,off,cap,row,rfl,_⟩<;>rfl
 | im ks vs=>rw[VS,GS] at hv;obtain⟨id,l,c,rfl,_⟩:=hv;rfl
 | ip cs=>rw[VS,GS] at hv;obtain⟨id,off,row,r,rfl,_⟩:=hv;rfl
 | ptr o off=>rw[VS] at hv;subst hv;rfl
 | map o=>rw[VS] at hv;subst hv;rfl
 | buf o n e c=>rw[VS] at hv;subst hv;rfl
 | sub o off n e c=>rw[VS] at hv;subst hv;rfl
 | e0 e=>rw[VS] at hv;obtain⟨o,e',rfl,_⟩:=hv;rfl
 | fn g a b=>rw[VS] at hv;obtain⟨aS,bs,rfl,_⟩:=hv;rfl
 | iface t v=>rw[VS] at hv;obtain⟨y,rfl,_⟩:=hv;rfl
def mw:∀{vs:List SV} {xs:List AV},cZ θ ρ vs xs->vs.all eP=true->xs.all ki=true
 | [],xs,hv,_=>by rw[aZ] at hv;subst hv;rfl
 | d::ds,xs,hv,h=>by
  rw[aK] at hv;obtain⟨a,r,rfl,h1,h2⟩:=hv;rw[ci,ac] at h ⊢;exact⟨Rh h1 h.1,mw h2 h.2⟩
def cr{α:Type}{p:Prop}[Decidable p]{x:Option α}{y:α}(h:qC p x=some y):p/\x=some y:=by
 unfold qC at h;split at h
 ·rename_i hp;exact⟨hp,h⟩
 ·cases h
variable{t:TypeId}
def uQ{q:Nat×Bool}(h:HL P t=some q):qO P t=some q.2/\cF P t=some q.1:=by
 unfold HL at h;obtain⟨b,hb,h⟩:=ul h;obtain⟨n,hn,rfl⟩:=az h;exact⟨hb,hn⟩
def vl{s:TypeId}{f:Nat}{q:Nat×TypeId×Nat}(h:Ir P s f=some q):∃fs fd,P.underlying s=some (.struct fs)/\fs.toList.all (λf=>(cF P f.type).isSome)=true/\fs[f]?=some fd/\cF P fd.type=some q.2.2/\fd.offset=q.1/\fd.type=q.2.1:=by
 unfold Ir at h;split at h
 ·rename_i fs hu;obtain⟨hb,h⟩:=aH h;obtain⟨fd,hfd,h⟩:=ul h;obtain⟨n,hn,rfl⟩:=az h;exact⟨fs,fd,hu,hb,hfd,hn,rfl,rfl⟩
 ·cases h
def gr{q:TypeId×Nat}(h:Ih P t=some q):P.underlying t=some (.slice q.1)/\cF P q.1=some q.2:=by
 unfold Ih at h;split at h
 ·rename_i e hu;obtain⟨n,hn,rfl⟩:=az h;exact⟨hu,hn⟩
 ·cases h
def Fa{q:Nat×TypeId×Nat}(h:RV P t=some q):P.underlying t=some (.array q.1 q.2.1)/\cF P q.2.1=some q.2.2:=by
 unfold RV at h;split at h
 ·rename_i n e hu;obtain⟨s,hs,rfl⟩:=az h;exact⟨hu,hs⟩
 ·cases h
def zf(h:jc P t=.str):P.underlying t=some .string:=by
 unfold jc at h
 split at h<;>first | assumption | cases h
def pT(h:jc P t=.sl):∃e,P.underlying t=some (.slice e):=by
 unfold jc at h
 split at h<;>first | exact⟨_,by assumption⟩ | cases h
def Oy(h:jc P t=.map):∃k e,P.underlying t=some (.map k e):=by
 unfold jc at h
 split at h<;>first | exact⟨_,_,by assumption⟩ | cases h
variable{aS:List AV}
def tY(hv:cZ θ ρ cs aS){off:Nat}(h:tX P t cs off=some v):∃a,e9 P t aS off=some a/\VS θ ρ v a:=by
 unfold tX at h;obtain⟨q,hq,h⟩:=ul h;obtain⟨h1,h2⟩:=uQ hq;obtain⟨n,b⟩:=q;unfold e9;simp only at h1 h2 h;rw[h1];cases b
 ·exact hv.get h
 ·simp only at h ⊢;obtain⟨hle,h⟩:=cr h;cases h;rw[h2,m7,hv.length,fc hle,aq];exact⟨_,rfl,by rw[VS];exact⟨_,rfl,(hv.drop off).take n⟩⟩
variable{h:H}{id:Nat}
def Cd(hr:sf h.aW id=some aS)(t:TypeId)(off:Nat):h.load P t id off=e9 P t aS off:=by
 unfold H.load e9 H.chunk;unfold sf at hr
 cases ho:h.aW.get id with
 | none=>rw[ho] at hr;cases hr
 | some ob=>
  rw[ho] at hr
  cases ob with
  | cells cs bX=>
   have hr:some cs=some aS:=hr;cases hr
   cases qO P t with
   | none=>rfl
   | some b=>
    cases b
    ·rfl
    ·simp only
     cases cF P t with
     | none=>rfl
     | some n=>simp only[m7];cases ble (off+n) aS.length<;>rfl
  | ro cs=>
   have hr:some cs=some aS:=hr;cases hr
   cases qO P t with
   | none=>rfl
   | some b=>
    cases b
    ·rfl
    ·simp only
     cases cF P t with
     | none=>rfl
     | some n=>simp only[m7];cases ble (off+n) aS.length<;>rfl
  | _=>cases hr
def Mp{row:List AV}{off r k:Nat}(hl:off+r<=row.length){v:AV}(h:e9 P t ((row.drop off).take r) k=some v):e9 P t row (off+k)=some v:=by
 unfold e9 at h ⊢;split at h
 ·obtain⟨n,hn,h⟩:=ul h;obtain⟨hb,h⟩:=aH h;cases h;have hb:=md hb;rw[ch,bh] at hb;rw[hn,m7,fc (show off+k+n<=row.length by omega),aq,cb,cc,a4,bi i4]
 ·rw[List.getElem?_take] at h;split at h
  ·rw[List.getElem?_drop] at h;exact h
  ·cases h
 ·cases h
def tG{place:Nat->Option (Nat×Nat)}:∀{parts:List (Nat×SV)} {ps:List (Nat×AV)} {cells:List SV} {aS:List AV} {out:List SV},TW θ ρ parts ps->cZ θ ρ cells aS->tF place cells parts=some out->∃o,km place aS ps=some o/\cZ θ ρ out o
 | [],ps,cells,aS,out,hp,hc,h=>by
  have hp:ps=[]:=hp;subst hp;simp only[tF,qr] at h;subst h;exact⟨aS,rfl,hc⟩
 | (i,v)::l,ps,cells,aS,out,hp,hc,h=>by
  obtain⟨a,r,rfl,h1,h2⟩:=hp;simp only[tF] at h;simp only[km];split at h
  ·cases h
  ·rename_i off size hpl;rw[hpl];simp only;obtain⟨cs,hcs,h⟩:=ul h;obtain⟨⟨hb1,hb2⟩,h⟩:=cr h;have k:=vb h1 hcs;subst hb1;rw[k.length,hc.length,aa,fc hb2,ad,aq];exact tG h2 ((hc.take off).app (k.app (hc.drop _))) h
def vZ{p q:Nat->Option (Nat×Nat)}(hpq:∀i,(p i).isSome=true->q i=p i):∀{ps:List (Nat×AV)} {aS o:List AV},km p aS ps=some o->km q aS ps=some o
 | [],aS,o,h=>h
 | (i,v)::l,aS,o,h=>by
  simp only[km] at h ⊢
  cases hp:p i with
  | none=>rw[hp] at h;cases h
  | some x=>
   obtain⟨off,size⟩:=x;rw[hpq i (by rw[hp];rfl),hp];rw[hp] at h;simp only at h ⊢;obtain⟨hb,h⟩:=aH h;rw[hb,aq];exact vZ hpq h
def Lp{parts:List (Nat×SV)}{ps:List (Nat×AV)}(hp:TW θ ρ parts ps)(h:C7 P t parts=some v):∃a,va P t ps=some a/\VS θ ρ v a:=by
 unfold C7 at h;unfold va;obtain⟨z,hz,h⟩:=ul h;obtain⟨q,hq,h⟩:=ul h;rw[hz,m7];unfold Qk at hq;split at hq
 ·rename_i fs hu;obtain⟨hb,hq⟩:=aH hq;cases hq;simp only at h;obtain⟨o,ho,rfl⟩:=az h;obtain⟨w,hw,kw⟩:=tG hp (cZ.a z.cells) ho
  have hw:=vZ (q:=vH P fs) (λi hi=>by
   cases hf:Ir P t i with
   | none=>rw[hf] at hi;cases hi
   | some q=>
    obtain⟨fs',fd,e1,_,e3,e4,e5,_⟩:=vl hf;rw[hu] at e1;cases e1;unfold vH
    rw[e3,m7,e4,m6,e5];rfl) hw
  rw[hu];simp only;rw[hb,aq,hw];exact⟨_,rfl,by rw[VS];exact⟨_,rfl,kw⟩⟩
 ·rename_i n e hu;obtain⟨s,hs,rfl⟩:=az hq;simp only at h;obtain⟨o,ho,rfl⟩:=az h;obtain⟨w,hw,kw⟩:=tG hp (cZ.a z.cells) ho;rw[hu];simp only;rw[hs,m7,hw];exact⟨_,rfl,by rw[VS];exact⟨_,rfl,kw⟩⟩
 ·cases hq
def yq{len:Nat}{parts:List (Nat×SV)}{ps:List (Nat×AV)}(hp:TW θ ρ parts ps){q:Nat×List SV}(h:nH P t len parts=some q):∃cs,gR P t len ps=some (q.1,cs)/\cZ θ ρ q.2 cs:=by
 unfold nH at h;unfold gR;obtain⟨el,hel,h⟩:=ul h;obtain⟨z,hz,h⟩:=ul h;obtain⟨⟨b1,b2,b3⟩,h⟩:=cr h;obtain⟨o,ho,rfl⟩:=az h;obtain⟨hu,hs⟩:=gr hel;obtain⟨w,hw,kw⟩:=tG hp (cZ.a (rep z.cells len)) ho
 have hb0:beq el.2 0=false:=by
  cases hb:beq el.2 0
  ·rfl
  ·exact un (cS hb) b3
 rw[hu];simp only;rw[hs,m7,hz,m7,fc b1,b2,aa,hb0];simp only[aT,ad,aq];rw[hw];exact⟨w,rfl,kw⟩
mutual
def jO:∀{v:SV} {x a:AV},VS θ ρ v x->cR v=some a->x=a
 | .a v,x,a,hv,h=>by rw[VS] at hv;rw[cR] at h;cases h;exact hv
 | .ag cs,x,a,hv,h=>by
  rw[VS] at hv;rw[cR] at h;obtain⟨aS,rfl,h2⟩:=hv;obtain⟨bs,hb,rfl⟩:=az h;rw[oL h2 hb]
 | .any,_,_,_,h=>by simp[cR] at h
 | .sl _ _ _,_,_,_,h=>by simp[cR] at h
 | .im _ _,_,_,_,h=>by simp[cR] at h
 | .ip _,_,_,_,h=>by simp[cR] at h
 | .ptr _ _,_,_,_,h=>by simp[cR] at h
 | .map _,_,_,_,h=>by simp[cR] at h
 | .buf _ _ _ _,_,_,_,h=>by simp[cR] at h
 | .sub _ _ _ _ _,_,_,_,h=>by simp[cR] at h
 | .e0 _,_,_,_,h=>by simp[cR] at h
 | .cx _,_,_,_,h=>by simp[cR] at h
 | .fn _ _ _,_,_,_,h=>by simp[cR] at h
 | .iface t v,x,a,hv,h=>by
  rw[VS] at hv;rw[cR] at h;obtain⟨y,rfl,h2⟩:=hv;obtain⟨b,hb,rfl⟩:=az h;rw[jO h2 hb]
def oL:∀{vs:List SV} {xs aS:List AV},cZ θ ρ vs xs->iY vs=some aS->xs=aS
 | [],xs,aS,hv,h=>by rw[aZ] at hv;rw[iY] at h;cases h;exact hv
 | d::ds,xs,aS,hv,h=>by
  rw[aK] at hv;rw[iY] at h;obtain⟨a,r,rfl,h1,h2⟩:=hv;obtain⟨b,hb,h⟩:=ul h;obtain⟨bs,hbs,rfl⟩:=az h;rw[jO h1 hb,oL h2 hbs]
end
def tK{kt:TypeId}{k:AV}:∀(l:List (AV×AV×Nat)) (i:Nat),gW P kt k l i=tJ P kt k (l.map (·.1)) i
 | [],_=>rfl
 | e::l,i=>by
  rw[am];unfold gW tJ
  cases lG P 4 kt k e.1 with
  | none=>rfl
  | some b=>
   cases b
   ·exact tK l (i+1)
   ·rfl
def DG{b:Bool}:∀{l:List SV} {x:SV} {xa:AV} {aS:List AV} {v:SV},VS θ ρ x xa->cZ θ ρ l aS->Be b x l=some v->∃a,nL b xa aS=some a/\VS θ ρ v a
 | [],x,xa,aS,v,hx,hl,h=>by
  rw[aZ] at hl;subst hl
  have:v=x:=by
   cases x<;>simp only[Be,qr] at h<;>exact h.symm
  subst this;exact⟨xa,rfl,hx⟩
 | y::l,x,xa,aS,v,hx,hl,h=>by
  rw[aK] at hl;obtain⟨ya,r,rfl,h1,h2⟩:=hl
  cases x with
  | a x=>
   cases y with
   | a y=>
    rw[VS] at hx h1;subst hx;subst h1;simp only[Be] at h;obtain⟨z,hz,h⟩:=ul h;obtain⟨w,hw,kw⟩:=DG (x:=.a z) (xa:=z) (by rw[VS]) h2 h;exact⟨w,by simp only[nL,hz,m7];exact hw,kw⟩
   | _=>simp[Be] at h
  | _=>simp[Be] at h
end
section
variable {θ θ':Nat->Loc} {ρ ρ0:ko} {P:Program}
mutual
def VS.ids(hθ:∀p,(θ' p).id=(θ p).id):∀{v:SV} {x:AV},VS θ ρ v x->VS θ' ρ v x
 | .any,_,_=>by rw[VS];trivial
 | .a v,x,h=>by rw[VS] at h ⊢;exact h
 | .sl n e cs,x,h=>by rw[VS] at h ⊢;exact h
 | .im ks vs,x,h=>by rw[VS] at h ⊢;exact h
 | .ip cs,x,h=>by rw[VS] at h ⊢;exact h
 | .ptr p _,_,h=>by rw[VS] at h ⊢;rw[hθ p];exact h
 | .map p,_,h=>by rw[VS] at h ⊢;rw[hθ p];exact h
 | .buf p _ _ _,_,h=>by rw[VS] at h ⊢;rw[hθ p];exact h
 | .sub p _ _ _ _,_,h=>by rw[VS] at h ⊢;rw[hθ p];exact h
 | .e0 e,x,h=>by rw[VS] at h ⊢;exact h
 | .ag cs,x,h=>by rw[VS] at h ⊢;obtain⟨aS,h1,h2⟩:=h;exact⟨aS,h1,cZ.ids hθ h2⟩
 | .cx cs,x,h=>by rw[VS] at h ⊢;obtain⟨aS,h1,h2⟩:=h;exact⟨aS,h1,cZ.ids hθ h2⟩
 | .fn g f c,x,h=>by rw[VS] at h ⊢;obtain⟨xs,ys,h1,h2,h3⟩:=h;exact⟨xs,ys,h1,cZ.ids hθ h2,cZ.ids hθ h3⟩
 | .iface t v,x,h=>by rw[VS] at h ⊢;obtain⟨y,h1,h2⟩:=h;exact⟨y,h1,VS.ids hθ h2⟩
def cZ.ids(hθ:∀p,(θ' p).id=(θ p).id):∀{ds:List SV} {aS:List AV},cZ θ ρ ds aS->cZ θ' ρ ds aS
 | [],aS,h=>by rw[aZ] at h ⊢;exact h
 | d::ds,aS,h=>by
  rw[aK] at h ⊢;obtain⟨a,r,h1,h2,h3⟩:=h;exact⟨a,r,h1,VS.ids hθ h2,cZ.ids hθ h3⟩
end
variable{o:Nat}{v:SV}{x:AV}
def ja(hθ:∀p,p≠o->θ' p=θ p)(h:VS θ ρ v x):VS θ' ρ (aP o v) x:=by
 unfold aP;cases hn:names o v
 ·exact h.uD hθ hn
 ·rw[aq,VS];trivial
def cZ.map{g:SV->SV}(hg:∀v x,VS θ ρ v x->VS θ' ρ (g v) x):∀{ds:List SV} {aS:List AV},cZ θ ρ ds aS->cZ θ' ρ (ds.map g) aS
 | [],aS,h=>by rw[aZ] at h;rw[bv,aZ];exact h
 | d::ds,aS,h=>by
  rw[aK] at h;rw[am,aK];obtain⟨a,r,h1,h2,h3⟩:=h;exact⟨a,r,h1,hg _ _ h2,cZ.map hg h3⟩
def fD(o:Nat):∀(f:Fm) (i:Nat),aO (dB o f) i=aP o (aO f i)
 | [],i=>rfl
 | (d,v)::f,i=>by
  show(if d=i then aP o v else aO (dB o f) i)=aP o (if d=i then v else aO f i);rw[fD o f i];by_cases h:d=i
  ·rw[ut h,ut h]
  ·rw[v6 h,v6 h]
def sQ(g:SV->SV):SO->SO
 | .cells cs=>.cells (cs.map g)
 | .map ks vs b=>.map ks (vs.map g) b
 | .iter m bs c pos=>.iter (g m) bs c pos
 | .oR ks vs bs c pos=>.oR ks vs bs c pos
 | .gone=>.gone
 | .loop c ls p f=>.loop c ls p (f.map λq=>(q.1,g q.2))
 | .mA N=>.mA N
def BU(g:SV->SV):∀(f:Fm) (i:Nat),aO (f.map λq=>(q.1,g q.2)) i=g (aO f i)\/aO (f.map λq=>(q.1,g q.2)) i=.any
 | [],i=>.inr rfl
 | (d,v)::f,i=>by
  show(if d=i then g v else aO (f.map λq=>(q.1,g q.2)) i)=g (if d=i then v else aO f i)\/(if d=i then g v else aO (f.map λq=>(q.1,g q.2)) i)=.any;by_cases h:d=i
  ·rw[ut h,ut h];exact .inl rfl
  ·rw[v6 h,v6 h];exact BU g f i
def Ox(o:Nat):bW o=sQ (aP o):=by funext so;cases so<;>rfl
def tT(so:SO):sQ (λv=>v) so=so:=by cases so<;>simp[sQ]
variable{so:SO}
def Cg{g:SV->SV}(h:sQ g so≠.gone):so≠.gone:=by intro e;subst e;exact h rfl
def ny.map{g:SV->SV}(hg:∀v x,VS θ ρ v x->VS θ' ρ (g v) x){h h':H}{L:Loc}{so:SO}(hx:ny θ ρ h L so)(ho:h'.aW.get L.id=h.aW.get L.id)(hf:h'.dC.get L.bX=h.dC.get L.bX):ny θ' ρ h' L (sQ g so):=by
 cases so with
 | cells cs=>obtain⟨aS,h1,h2,h3⟩:=hx;exact⟨aS,by rw[ho];exact h1,h2.map hg,by rw[hf];exact h3⟩
 | map ks vs b=>obtain⟨l,c,h1,h2,h3⟩:=hx;exact⟨l,c,by rw[ho];exact h1,h2,h3.map hg⟩
 | iter m bs c pos=>obtain⟨j7,h1,h2⟩:=hx;exact⟨j7,hg _ _ h1,by rw[ho];exact h2⟩
 | oR ks vs bs c pos=>obtain⟨j7,l,h1,h2,h3,h4⟩:=hx;exact⟨j7,l,h1,h2,h3,by rw[ho];exact h4⟩
 | gone=>trivial
 | loop c ls p f=>
  obtain⟨h1,h2,h3⟩:=hx;refine⟨h1,by rw[ho];exact h2,λi hi=>?_⟩
  rcases BU g f i with e | e
  ·rw[e];exact hg _ _ (h3 i hi)
  ·rw[e,VS];trivial
 | mA N=>exact⟨hx.1,by rw[ho];exact hx.2⟩
def yf.symm{L M:Loc}(h:yf L M):yf M L:=⟨h.xx.symm,h.yx.symm,h.xy.symm,h.yy.symm,h.f.symm⟩
variable{n:Nat}
def E3.mono{b:En}{m:Nat}{L:Loc}(h:E3 b n L)(hn:n<=m):E3 b m L:=⟨h.e,⟨h.x.1,by have:=h.x.2;omega⟩,⟨h.y.1,by have:=h.y.2;omega⟩,⟨h.f.1,by have:=h.f.2;omega⟩⟩
def gL(θ:Nat->Loc)(o:Nat)(L:Loc):Nat->Loc:=λp=>if p=o then L else θ p
def cH(θ:Nat->Loc)(o:Nat)(L:Loc):gL θ o L o=L:=ut rfl
def bZ(θ:Nat->Loc){p:Nat}(L:Loc)(h:p≠o):gL θ o L p=θ p:=v6 h
variable{h0:En}{h:H}{S:List SO}{S':List SO}
def RS.A1{h':H}{so':SO}{L':Loc}{g:SV->SV}(hR:RS θ ρ0 ρ h0 h S)(hnx:h.next<=h'.next)(hob0:∀j,h0.pr j->h'.aW.get j=h.aW.get j)(hfm0:∀j,h0.pf j->h'.dC.get j=h.dC.get j)(hlw:h0.lo<=h'.low)(hln:h'.low<=h'.next)(hL:E3 h0 h'.next L')
 (hg:∀v x,VS θ ρ v x->VS (gL θ o L') ρ (g v) x)
 (hob:∀p so,p≠o->S[p]?=some so->so≠.gone->h'.aW.get (θ p).id=h.aW.get (θ p).id/\h'.dC.get (θ p).bX=h.dC.get (θ p).bX/\yf (θ p) L')
 (hrow:∀id ob,ρ id=some ob->h'.aW.get id=h.aW.get id/\id≠L'.x/\id≠L'.y)
 (hnew:ny (gL θ o L') ρ h' L' so') (hS:∀p,p≠o->S'[p]?=(S[p]?).map (sQ g)) (hSo:S'[o]?=some so'):RS (gL θ o L') ρ0 ρ h0 h' S':=by
 have other:∀p so,p≠o->S'[p]?=some so->so≠.gone->∃s,S[p]?=some s/\s≠.gone/\so=sQ g s:=by
  intro p so hp h1 h2;rw[hS p hp] at h1;obtain⟨s,hs,rfl⟩:=az h1;exact⟨s,hs,Cg h2,rfl⟩
 refine⟨hR.ok,bb hR.nx hnx,λj hj=>(hob0 j hj).trans (hR.ob j hj),λj hj=>(hfm0 j hj).trans (hR.fm j hj),hlw,hln,?_,?_,?_,hR.mE⟩
 ·intro p so h1 h2;by_cases hp:p=o
  ·subst hp;rw[hSo] at h1;cases h1;rw[cH];exact⟨hL,hnew⟩
  ·obtain⟨s,hs,hsg,rfl⟩:=other p so hp h1 h2;rw[bZ _ _ hp];obtain⟨k1,k2⟩:=hR.obj p s hs hsg;obtain⟨q1,q2,_⟩:=hob p s hp hs hsg;exact⟨k1.mono hnx,k2.map hg q1 q2⟩
 ·intro p q so so' hpq h1 h2 h3 h4;by_cases hp:p=o
  ·subst hp;obtain⟨s,hs,hsg,rfl⟩:=other q so' (λe=>hpq e.symm) h3 h4;rw[cH,bZ _ _ (λe=>hpq e.symm)];exact(hob q s (λe=>hpq e.symm) hs hsg).2.2.symm
  ·obtain⟨s,hs,hsg,rfl⟩:=other p so hp h1 h2;rw[bZ _ _ hp];by_cases hq:q=o
   ·subst hq;rw[cH];exact(hob p s hp hs hsg).2.2
   ·obtain⟨s',hs',hsg',rfl⟩:=other q so' hq h3 h4;rw[bZ _ _ hq];exact hR.sep p q s s' hpq hs hsg hs' hsg'
 ·intro id ob hi;obtain⟨k1,k2,k3⟩:=hR.row id ob hi;obtain⟨q1,q2,q3⟩:=hrow id ob hi;refine⟨aj k1 hnx,by rw[q1];exact k2,?_⟩;intro p so h1 h2;by_cases hp:p=o
  ·subst hp;rw[cH];exact⟨q2,q3⟩
  ·obtain⟨s,hs,hsg,rfl⟩:=other p so hp h1 h2;rw[bZ _ _ hp];exact k3 p s hs hsg
def bo{α:Type}{l:List α}{i:Nat}{x:α}(h:l[i]?=some x):i<l.length:=(rt h).1
def rK(o:Nat)(S:List SO)(p:Nat):(dh o S)[p]?=(S[p]?).map (sQ (aP o)):=by
 unfold dh;rw[Ox,a6]
def RS.new{ob:AO}(hR:RS θ ρ0 ρ h0 h S)(hob:(∃cs aS,so=.cells cs/\ob=.cells aS h.next/\cZ θ ρ cs aS)\/(so=.map [] [] none/\ob=.map [] 0)):
 RS (gL θ S.length ⟨h.next,h.next,h.next,h.next⟩) ρ0 ρ h0 { h.lay h.next ob with next:=h.next+1 } (eJ S so)/\∀v x,VS θ ρ v x->VS (gL θ S.length ⟨h.next,h.next,h.next,h.next⟩) ρ (aP S.length v) x:=by
 have hg:∀v x,VS θ ρ v x->VS (gL θ S.length ⟨h.next,h.next,h.next,h.next⟩) ρ (aP S.length v) x:=λv x hv=>ja (λp hp=>bZ _ _ hp) hv;refine⟨?_,hg⟩;have hb:=hR.nx;have hpr:∀j,h0.pr j->j<h.next:=λj hj=>aj (hR.ok.pr j hj) hb;have hpf:∀j,h0.pf j->j<h.next:=λj hj=>aj (hR.ok.pf j hj) hb
 have hobj:∀j,j<h.next->({ h.lay h.next ob with next:=h.next+1 }:H).aW.get j=h.aW.get j:=by
  intro j hj
  rcases hob with⟨cs,aS,_,rfl,_⟩ | ⟨_,rfl⟩<;>exact bn _ _ i4
 have hfam:∀j,j<h.next->({ h.lay h.next ob with next:=h.next+1 }:H).dC.get j=h.dC.get j:=by
  intro j hj
  rcases hob with⟨cs,aS,_,rfl,_⟩ | ⟨_,rfl⟩
  ·exact bn _ _ i4
  ·rfl
 have hlow:({ h.lay h.next ob with next:=h.next+1 }:H).low=h.low:=by
  rcases hob with⟨cs,aS,_,rfl,_⟩ | ⟨_,rfl⟩<;>rfl
 refine hR.A1 (g:=aP S.length) (so':=bW S.length so) (by show h.next<=h.next+1;omega) (λj hj=>hobj j (hpr j hj)) (λj hj=>hfam j (hpf j hj)) (by rw[hlow];exact hR.lw) (by rw[hlow];exact co hR.ln) ⟨.inl rfl,⟨λhj=>cd _ (hpr _ hj),bF _⟩,⟨λhj=>cd _ (hpr _ hj),bF _⟩,⟨λhj=>cd _ (hpf _ hj),bF _⟩⟩ hg ?_ ?_ ?_ ?_ ?_
 ·intro p s hp hs hsg;obtain⟨⟨k1,k2,k3,k4⟩,_⟩:=hR.obj p s hs hsg;refine⟨hobj _ (by rcases k1 with e | e<;>omega),hfam _ k4.2,⟨?_,?_,?_,?_,?_⟩⟩<;>(simp only;omega)
 ·intro id ob' hi;have:=(hR.row id ob' hi).1;exact⟨hobj id this,by simp only;omega,by simp only;omega⟩
 ·rcases hob with⟨cs,aS,rfl,rfl,hv⟩ | ⟨rfl,rfl⟩
  ·exact⟨aS,cW _ _ _,hv.map hg,cW _ _ _⟩
  ·exact⟨[],0,cW _ _ _,⟨rfl,⟨List.nodup_nil,λe he=>by simp at he⟩,λp hp=>by cases hp⟩,by rw[bv,bv,aZ]⟩
 ·intro p hp;unfold eJ
  have hl:(dh S.length S).length=S.length:=by unfold dh;rw[a0]
  rw[cl];split
  ·exact rK _ _ _
  ·rename_i hlt;rw[hl] at hlt ⊢;have:S[p]?=none:=a7 i4;rw[this,a7 (by simp;omega)];rfl
 ·unfold eJ
  have hl:(dh S.length S).length=S.length:=by unfold dh;rw[a0]
  rw[ba i4,hl,d2];rfl
variable{id:Nat}
def pD{bX x y:Nat}(hf:h.dC.get bX=some (x,y)){j:Nat}(hj:j≠bX):(h.alone id bX).dC.get j=h.dC.get j:=by
 unfold H.alone;rw[hf];simp only;cases beq x id&&beq y id
 ·exact bn _ _ hj
 ·rfl
def nP{a b c:Nat}(h1:c<=a)(h2:c<=b):c<=hY a b:=by
 unfold hY;cases ble a b
 ·exact h2
 ·exact h1
def BL{bX x y b:Nat}(hf:h.dC.get bX=some (x,y))(hx:b<=x)(hy:b<=y)(hb:b<=h.low)(hn:h.low<=h.next):b<=(h.alone id bX).low/\(h.alone id bX).low<=h.next:=by
 unfold H.alone;rw[hf];simp only;cases beq x id&&beq y id
 ·exact⟨nP hb (nP hx hy),bb (dR _ _).1 hn⟩
 ·exact⟨hb,hn⟩
def RS.store{h0:En}{h:H}{S:List SO}{o:Nat}{cs vs:List SV}{off:Nat}{xs:List AV}(hR:RS θ ρ0 ρ h0 h S)(hS:S[o]?=some (.cells cs))(hv:cZ θ ρ vs xs)(hone:xs.all ki=true)(hle:off+vs.length<=cs.length):
 ∃h',h.store (θ o).id off xs=some h'/\RS (gL θ o ⟨(θ o).id,(θ o).bX,(θ o).id,(θ o).id⟩) ρ0 ρ h0 h' (S.set o (.cells (cs.take off++(vs++cs.drop (off+vs.length)))))/\∀v x,VS θ ρ v x->VS (gL θ o ⟨(θ o).id,(θ o).bX,(θ o).id,(θ o).id⟩) ρ v x:=by
 have hg:∀v x,VS θ ρ v x->VS (gL θ o ⟨(θ o).id,(θ o).bX,(θ o).id,(θ o).id⟩) ρ v x:=λv x hv=>hv.ids λp=>by
  by_cases hp:p=o
  ·subst hp;rw[cH]
  ·rw[bZ _ _ hp]
 obtain⟨⟨k1,k2,k3,k4⟩,aS,q1,q2,q3⟩:=hR.obj o _ hS gt;have a2:(h.alone (θ o).id (θ o).bX).next=h.next:=(sE (Z:=0) (id:=(θ o).id) q3 (bd _) (bd _) (bd _)).2;have px:∀j,h0.pr j->j≠(θ o).x:=λj hj e=>k2.1 (e▸hj);have py:∀j,h0.pr j->j≠(θ o).y:=λj hj e=>k3.1 (e▸hj)
 have pi:∀j,h0.pr j->j≠(θ o).id:=λj hj=>by rcases k1 with e | e<;>rw[e];exact px j hj;exact py j hj
 have pfm:∀j,h0.pf j->j≠(θ o).bX:=λj hj e=>k4.1 (e▸hj)
 have lid:h0.lo<=(θ o).id:=by rcases k1 with e | e<;>rw[e];exact hR.ok.lo _ k2.1;exact hR.ok.lo _ k3.1
 have hidn:(θ o).id<h.next:=by rcases k1 with e | e<;>rw[e];exact k2.2;exact k3.2
 have al:=BL (id:=(θ o).id) q3 (hR.ok.lo _ k2.1) (hR.ok.lo _ k3.1) hR.lw hR.ln;have hl:=q2.length;have hlx:=hv.length;refine⟨{ h.alone (θ o).id (θ o).bX with aW:=(h.alone (θ o).id (θ o).bX).aW.put (θ o).id (some (.cells (aS.take off++(xs++aS.drop (off+xs.length))) (θ o).bX)),low:=hY (h.alone (θ o).id (θ o).bX).low (θ o).id },?_,?_,hg⟩
 ·unfold H.store;rw[q1];simp only;rw[fc (show off+xs.length<=aS.length by omega),hone];rfl
 ·refine hR.A1 (g:=λv=>v) (so':=.cells (cs.take off++(vs++cs.drop (off+vs.length)))) (by show h.next<=(h.alone _ _).next;omega) (λj hj=>?_) (λj hj=>pD q3 (pfm j hj)) (nP al.1 lid) ?_ ⟨.inl rfl,⟨λhj=>pi _ hj rfl,?_⟩,⟨λhj=>pi _ hj rfl,?_⟩,⟨k4.1,?_⟩⟩ hg ?_ ?_ ?_ ?_ ?_
  ·show(Tr.put _ _ _).get j=_;rw[bn _ _ (pi j hj)];exact kq q3 (px j hj) (py j hj)
  ·show hY (h.alone _ _).low _<=(h.alone _ _).next;rw[a2];exact bb (dR _ _).1 al.2
  ·show(θ o).id<(h.alone _ _).next;rw[a2];exact hidn
  ·show(θ o).id<(h.alone _ _).next;rw[a2];exact hidn
  ·show(θ o).bX<(h.alone _ _).next;rw[a2];exact k4.2
  ·intro p s hp hs hsg;have sp:=hR.sep p o s _ hp hs hsg hS gt;obtain⟨⟨j1,j2,j3,j4⟩,_⟩:=hR.obj p s hs hsg
   have e1:(θ p).id≠(θ o).x:=by rcases j1 with e | e<;>rw[e];exact sp.xx;exact sp.yx
   have e2:(θ p).id≠(θ o).y:=by rcases j1 with e | e<;>rw[e];exact sp.xy;exact sp.yy
   refine⟨?_,pD q3 sp.f,⟨?_,?_,?_,?_,sp.f⟩⟩
   ·show(Tr.put _ _ _).get _=_;rw[bn _ _ (by rcases k1 with e | e<;>rw[e]<;>assumption)];exact kq q3 e1 e2
   ·simp only;rcases k1 with e | e<;>rw[e];exact sp.xx;exact sp.xy
   ·simp only;rcases k1 with e | e<;>rw[e];exact sp.xx;exact sp.xy
   ·simp only;rcases k1 with e | e<;>rw[e];exact sp.yx;exact sp.yy
   ·simp only;rcases k1 with e | e<;>rw[e];exact sp.yx;exact sp.yy
  ·intro id ob hi;obtain⟨_,_,r3⟩:=hR.row id ob hi;obtain⟨e1,e2⟩:=r3 o _ hS gt
   have e3:id≠(θ o).id:=by rcases k1 with e | e<;>rw[e]<;>assumption
   refine⟨?_,e3,e3⟩;show(Tr.put _ _ _).get _=_;rw[bn _ _ e3];exact kq q3 e1 e2
  ·refine⟨_,cW _ _ _,?_,BK q3⟩
   have hw:cZ θ ρ (cs.take off++(vs++cs.drop (off+vs.length))) (aS.take off++(xs++aS.drop (off+xs.length))):=by
    rw[hlx];exact(q2.take off).app (hv.app (q2.drop (off+vs.length)))
   have:=hw.map hg;rw[List.map_id'] at this;exact this
  ·intro p hp;rw[a3 (λe=>hp e.symm)]
   cases S[p]? with
   | none=>rfl
   | some s=>rw[m6,tT]
  ·rw[ay (bo hS)]
variable{vs:List SV}
def RS.Tc{ks ks':List AV}{vs':List SV}{l':List (AV×AV×Nat)}{c':Nat}{b b':Option (List Nat×Nat)}(hR:RS θ ρ0 ρ h0 h S)(hS:S[o]?=some (.map ks vs b))(h1:P5 l' c' ks' b')(h2:cZ θ ρ vs' (l'.map (·.2.1))):
 RS θ ρ0 ρ h0 (h.set (θ o).id (.map l' c')) (S.set o (.map ks' vs' b')):=by
 obtain⟨⟨k1,k2,k3,k4⟩,l,c,q1,q2,q3⟩:=hR.obj o _ hS gt
 have heq:gL θ o (θ o)=θ:=by
  funext p;unfold gL;split
  ·rename_i e;rw[e]
  ·rfl
 have hg:∀v x,VS θ ρ v x->VS (gL θ o (θ o)) ρ v x:=λv x hv=>by rw[heq];exact hv
 have pi:∀j,h0.pr j->j≠(θ o).id:=λj hj e=>by rcases k1 with e' | e'<;>rw[e'] at e;exact k2.1 (e▸hj);exact k3.1 (e▸hj)
 have lid:h0.lo<=(θ o).id:=by rcases k1 with e | e<;>rw[e];exact hR.ok.lo _ k2.1;exact hR.ok.lo _ k3.1
 have:=hR.A1 (g:=λv=>v) (h':=h.set (θ o).id (.map l' c')) (S':=S.set o (.map ks' vs' b')) (so':=.map ks' vs' b') (L':=θ o) (bw _) (λj hj=>bn _ _ (pi j hj)) (λj hj=>rfl) (nP hR.lw lid) (bb (dR _ _).1 hR.ln) ⟨k1,k2,k3,k4⟩ hg ?_ ?_ ?_ ?_ ?_
 ·rw[heq] at this;exact this
 ·intro p s hp hs hsg;have sp:=hR.sep p o s _ hp hs hsg hS gt;obtain⟨⟨j1,j2,j3,j4⟩,_⟩:=hR.obj p s hs hsg;refine⟨bn _ _ ?_,rfl,sp⟩
  rcases j1 with e | e<;>rcases k1 with e' | e'<;>rw[e,e']
  ·exact sp.xx
  ·exact sp.xy
  ·exact sp.yx
  ·exact sp.yy
 ·intro id ob hi;obtain⟨_,_,r3⟩:=hR.row id ob hi;obtain⟨e1,e2⟩:=r3 o _ hS gt;exact⟨bn _ _ (by rcases k1 with e | e<;>rw[e]<;>assumption),e1,e2⟩
 ·rw[heq];exact⟨l',c',cW _ _ _,h1,h2⟩
 ·intro p hp;rw[a3 (λe=>hp e.symm)]
  cases S[p]? with
  | none=>rfl
  | some s=>rw[m6,tT]
 ·rw[ay (bo hS)]
variable{cs:List SV}{aS:List AV}
def RS.fork{xs:List AV}(hR:RS θ ρ0 ρ h0 h S)(hS:S[o]?=some (.cells cs))(hv:cZ θ ρ vs xs)(has:h.aW.get (θ o).id=some (.cells aS (θ o).bX))(hle:n<=cs.length):
 (h.alone (θ o).id (θ o).bX).next=h.next/\RS (gL θ o ⟨h.next,(θ o).bX,(θ o).id,h.next⟩) ρ0 ρ h0 (h.ep (θ o).id (θ o).bX (aS.take n) ((aS.drop 0).take n++xs)) ((dh o S).set o (bW o (.cells (cs.take n++vs))))/\∀v x,VS θ ρ v x->VS (gL θ o ⟨h.next,(θ o).bX,(θ o).id,h.next⟩) ρ (aP o v) x:=by
 have hg:∀v x,VS θ ρ v x->VS (gL θ o ⟨h.next,(θ o).bX,(θ o).id,h.next⟩) ρ (aP o v) x:=λv x hv=>ja (λp hp=>bZ _ _ hp) hv;obtain⟨⟨k1,k2,k3,k4⟩,as',q1,q2,q3⟩:=hR.obj o _ hS gt;rw[has] at q1;cases q1;have a2:(h.alone (θ o).id (θ o).bX).next=h.next:=(sE (Z:=0) (id:=(θ o).id) q3 (bd _) (bd _) (bd _)).2;have px:∀j,h0.pr j->j≠(θ o).x:=λj hj e=>k2.1 (e▸hj);have py:∀j,h0.pr j->j≠(θ o).y:=λj hj e=>k3.1 (e▸hj)
 have pi:∀j,h0.pr j->j≠(θ o).id:=λj hj=>by rcases k1 with e | e<;>rw[e];exact px j hj;exact py j hj
 have pfm:∀j,h0.pf j->j≠(θ o).bX:=λj hj e=>k4.1 (e▸hj)
 have lid:h0.lo<=(θ o).id:=by rcases k1 with e | e<;>rw[e];exact hR.ok.lo _ k2.1;exact hR.ok.lo _ k3.1
 have hidn:(θ o).id<h.next:=by rcases k1 with e | e<;>rw[e];exact k2.2;exact k3.2
 have al:=BL (id:=(θ o).id) q3 (hR.ok.lo _ k2.1) (hR.ok.lo _ k3.1) hR.lw hR.ln;have hid:(θ o).id<h.next:=hidn;have hb:=hR.nx;have hprn:∀j,h0.pr j->j<h.next:=λj hj=>aj (hR.ok.pr j hj) hb;refine⟨a2,?_,hg⟩;refine hR.A1 (g:=aP o) (so':=bW o (.cells (cs.take n++vs))) (by show h.next<=(h.alone _ _).next+1;omega) (λj hj=>?_) (λj hj=>?_) ?_ ?_ ⟨.inr rfl,⟨λhj=>pi _ hj rfl,?_⟩,⟨λhj=>cd _ (hprn _ hj),?_⟩,⟨k4.1,?_⟩⟩ hg ?_ ?_ ?_ ?_ ?_
 ·simp only[H.ep];rw[a2,bn _ _ (by have:=hprn j hj;omega),bn _ _ (pi j hj)];exact kq q3 (px j hj) (py j hj)
 ·simp only[H.ep];rw[bn _ _ (pfm j hj)];exact pD q3 (pfm j hj)
 ·simp only[H.ep];exact nP al.1 lid
 ·simp only[H.ep];rw[a2];exact co (bb (dR _ _).1 al.2)
 ·simp only[H.ep,a2];omega
 ·simp only[H.ep,a2];omega
 ·simp only[H.ep,a2];have:=k4.2;omega
 ·intro p s hp hs hsg;have sp:=hR.sep p o s _ hp hs hsg hS gt;obtain⟨⟨j1,j2,j3,j4⟩,_⟩:=hR.obj p s hs hsg
  have e1:(θ p).id≠(θ o).x:=by rcases j1 with e | e<;>rw[e];exact sp.xx;exact sp.yx
  have e2:(θ p).id≠(θ o).y:=by rcases j1 with e | e<;>rw[e];exact sp.xy;exact sp.yy
  have e3:(θ p).id<h.next:=by rcases j1 with e | e<;>omega
  refine⟨?_,?_,⟨?_,?_,?_,?_,sp.f⟩⟩
  ·simp only[H.ep];rw[a2,bn _ _ i4,bn _ _ (by rcases k1 with e | e<;>rw[e]<;>assumption)];exact kq q3 e1 e2
  ·simp only[H.ep];rw[bn _ _ sp.f];exact pD q3 sp.f
  ·simp only;rcases k1 with e | e<;>rw[e];exact sp.xx;exact sp.xy
  ·simp only;omega
  ·simp only;rcases k1 with e | e<;>rw[e];exact sp.yx;exact sp.yy
  ·simp only;omega
 ·intro id ob hi;obtain⟨r1,_,r3⟩:=hR.row id ob hi;obtain⟨e1,e2⟩:=r3 o _ hS gt
  have e3:id≠(θ o).id:=by rcases k1 with e | e<;>rw[e]<;>assumption
  refine⟨?_,e3,by simp only;omega⟩;simp only[H.ep];rw[a2,bn _ _ i4,bn _ _ e3];exact kq q3 e1 e2
 ·refine⟨_,?_,((q2.take n).app hv).map hg,?_⟩
  ·simp only[H.ep];rw[a2,cW,b6]
  ·simp only[H.ep];rw[cW,a2]
 ·intro p hp;rw[a3 (λe=>hp e.symm)];exact rK _ _ _
 ·rw[ay (by unfold dh;rw[a0];exact bo hS)]
end
section
variable {θ θ':Nat->Loc} {ρ ρ0:ko} {P:Program}
variable{h0:En}{h:H}{S:List SO}{id:Nat}
def GU(hR:RS θ ρ0 ρ h0 h S){row:List AV}(hr:vN ρ id=some row):sf h.aW id=some row:=by
 unfold vN at hr
 cases ho:ρ id with
 | none=>rw[ho] at hr;cases hr
 | some ob=>
  have:=(hR.row id ob ho).2.1;rw[ho] at hr;unfold sf;rw[this]
  cases ob<;>first | exact hr | (cases hr;done)
variable{x:AV}{v:SV}
def Ga(hR:RS θ ρ0 ρ h0 h S){tt:TypeId}{a:SV}(ha:VS θ ρ a x)(hl:zk P S tt a=some v):∃y,DD P h tt (some x)=some y/\VS θ ρ v y:=by
 unfold zk at hl;split at hl
 ·rename_i o off;rw[VS] at ha;subst ha;split at hl
  ·rename_i cs hS;obtain⟨_,aS,q1,q2,_⟩:=hR.obj o _ hS gt;obtain⟨y,k1,k2⟩:=tY q2 hl;exact⟨y,by rw[Ce,Cd (aS:=aS) (by unfold sf;rw[q1];rfl)];exact k1,k2⟩
  ·cases hl
 ·rename_i cs;rw[VS,GS] at ha;obtain⟨id,off,row,r,rfl,h2,h3,h4⟩:=ha;obtain⟨y,k1,k2⟩:=tY (h4.vs (θ:=θ)) hl;refine⟨y,?_,k2⟩;rw[Ce,Cd (GU hR h2)];have:=Mp h3 k1;rw[Nat.add_zero] at this;exact this
 ·cases hl
variable{S':List SO}{y:AV}
def MB(hR:RS θ ρ0 ρ h0 h S){tt:TypeId}{a:SV}(ha:VS θ ρ a x)(hv:VS θ ρ v y)(hs:D3 P S tt a v=some S'):
 ∃h' θ',D2 P h tt (some x) (some y)=some h'/\RS θ' ρ0 ρ h0 h' S'/\∀v x,VS θ ρ v x->VS θ' ρ v x:=by
 unfold D3 at hs;split at hs
 ·rename_i o off;rw[VS] at ha;subst ha;split at hs
  ·rename_i cs hS;obtain⟨⟨n,_⟩,hq,hs⟩:=ul hs;obtain⟨vs,hvs,hs⟩:=ul hs;obtain⟨⟨b1,b2,b3⟩,hs⟩:=cr hs;cases hs;have hn:=(uQ hq).2;simp only at b1 b2 hn;have kv:=vb hv hvs;subst b1;obtain⟨h',e1,e2,e3⟩:=hR.store hS kv (mw kv b3) b2;refine⟨h',_,?_,e2,e3⟩;rw[I8];unfold H.storeVar;rw[hn,m7,kv.length,aa,aq];exact e1
  ·cases hs
 ·cases hs
def Ro{P:Program}{t:Tr AV}{nm:String}{first cap:Array Operand}:eB P t h (.makeFunc (.method nm) first cap)=((A7 t first.toList).bind λa=>(A7 t cap.toList).map λb=>AV.fn (.method nm) a b).map λv=>[(some v,h)]:=rfl
variable{w:SV}
def Q2(hv:VS θ ρ v x)(h:bH P v=some w):oY P x=some x/\w=v:=by
 cases v with
 | ptr o off=>simp only[bH,qr] at h;rw[VS] at hv;subst hv;exact⟨rfl,h.symm⟩
 | ip cs=>simp only[bH,qr] at h;rw[VS,GS] at hv;obtain⟨id,off,row,r,rfl,_⟩:=hv;exact⟨rfl,h.symm⟩
 | fn g a b=>simp only[bH,qr] at h;rw[VS] at hv;obtain⟨xs,ys,rfl,_⟩:=hv;exact⟨rfl,h.symm⟩
 | sl n e cs=>simp only[bH,qr] at h;rw[VS,GS] at hv;rcases hv with⟨_,_,o,e',c,rfl,_,_⟩ | ⟨id,off,cap,row,rfl,_⟩<;>exact⟨rfl,h.symm⟩
 | buf o n e c=>simp only[bH,qr] at h;rw[VS] at hv;subst hv;exact⟨rfl,h.symm⟩
 | sub o off n e c=>simp only[bH,qr] at h;rw[VS] at hv;subst hv;exact⟨rfl,h.symm⟩
 | e0 e=>simp only[bH,qr] at h;rw[VS] at hv;obtain⟨o,e',rfl,_⟩:=hv;exact⟨rfl,h.symm⟩
 | a u=>
  unfold bH at h;split at h
  case h_8 hu=>
   cases hu;obtain⟨g,hg,rfl⟩:=az h;rw[VS] at hv;subst hv;refine⟨?_,rfl⟩;unfold oY;simp only[hg,m6]
  all_goals first | (cases h;done) | (rename_i hu;cases hu;done)
 | _=>simp[bH] at h
def Ll{a b:Nat}(h:a<b):Nat.blt a b=true:=by rw[Nat.blt_eq];exact h
variable{cs:List SV}
def Kv{k:Nat}(hv:GS ρ (.ip cs) x)(hk:k<=cs.length):∃id off row,x=.ptr (some (id,off))/\vN ρ id=some row/\GS ρ (.ip (cs.drop k)) (.ptr (some (id,off+k))):=by
 rw[GS] at hv;obtain⟨id,off,row,r,rfl,h2,h3,h4⟩:=hv;refine⟨id,off,row,rfl,h2,?_⟩;have hl:=h4.length;rw[ch,bh] at hl;rw[GS];refine⟨id,off+k,row,r-k,rfl,h2,by omega,?_⟩;have:=h4.drop k;rw[cb,a4] at this;exact this
def A8{s:TypeId}{fl:Nat}(hv:VS θ ρ v x)(h:pK P s v fl=some w):∃y,jr P s x fl=some y/\VS θ ρ w y:=by
 unfold pK at h;obtain⟨q,hq,h⟩:=ul h;obtain⟨hn0,h⟩:=cr h;obtain⟨fs,fd,hu,_,hfd,hn,e1,_⟩:=vl hq
 have hb:beq q.2.2 0=false:=by
  cases hb:beq q.2.2 0
  ·rfl
  ·exact un (cS hb) hn0
 cases v with
 | ptr o off=>
  simp only at h;cases h;rw[VS] at hv;subst hv;unfold jr;rw[hu];simp only;rw[hfd,m7,hn,m7,hb,aA,e1];exact⟨_,rfl,by rw[VS]⟩
 | ip cs=>
  simp only at h;obtain⟨hk,h⟩:=cr h;cases h;rw[VS] at hv;obtain⟨id,off,row,rfl,_,h2⟩:=Kv hv hk;unfold jr;rw[hu];simp only;rw[hfd,m7,hn,m7,hb,aA,e1];exact⟨_,rfl,by rw[VS];exact h2⟩
 | _=>simp at h
def LO{s:TypeId}{fl:Nat}(hv:VS θ ρ v x)(h:yJ P s v fl=some w):∃y,vg P s x fl=some y/\VS θ ρ w y:=by
 cases v with
 | ag cs=>
  simp only[yJ] at h;rw[VS] at hv;obtain⟨aS,rfl,hv⟩:=hv;obtain⟨q,hq,h⟩:=ul h;obtain⟨fs,fd,hu,_,hfd,hn,e1,e2⟩:=vl hq;obtain⟨y,k1,k2⟩:=tY hv h;unfold vg;rw[hu];simp only;rw[hfd,m7,e1,e2];exact⟨y,k1,k2⟩
 | _=>simp[yJ] at h
def DJ{i:Nat}(hv:VS θ ρ v x)(h:IL v=some i):df x=some i:=by
 cases v with
 | a v=>rw[VS] at hv;subst hv;exact h
 | _=>simp[IL] at h
variable{t:TypeId}
def Ba{iv:SV}{ix:AV}(hv:VS θ ρ v x)(hi:VS θ ρ iv ix)(h:pQ P t v iv=some w):∃y,kF P t x ix=some y/\VS θ ρ w y:=by
 unfold pQ at h;obtain⟨i,hin,h2⟩:=ul h;clear h;unfold kF;rw[DJ hi hin,m7]
 cases har:RV P t with
 | some q=>
  rw[har] at h2;simp only at h2;obtain⟨hu,hs⟩:=Fa har;obtain⟨hlt,h⟩:=cr h2;rw[hu];have hlb:blt i q.1=true:=Ll hlt
  cases v with
  | ptr o off=>
   simp only at h;cases h;rw[VS] at hv;subst hv;simp only;rw[hs,m7,hlb,aq];exact⟨_,rfl,by rw[VS]⟩
  | ip cs=>
   simp only at h;obtain⟨hk,h⟩:=cr h;cases h;rw[VS] at hv;obtain⟨id,off,row,rfl,_,h2⟩:=Kv hv hk;simp only;rw[hs,m7,hlb,aq];exact⟨_,rfl,by rw[VS];exact h2⟩
  | _=>simp at h
 | none=>
  rw[har] at h2;simp only at h2;obtain⟨q,hq,h⟩:=ul h2;obtain⟨hu,hs⟩:=gr hq;obtain⟨e,s⟩:=q;simp only at hu hs h;rw[hu]
  cases v with
  | sl n es cs=>
   simp only at h;obtain⟨⟨hlt,hse⟩,h⟩:=cr h;cases h;subst hse;have hlb:blt i n=true:=Ll hlt;rw[VS,GS] at hv
   rcases hv with⟨h1,_⟩ | ⟨id,off,cap,row,rfl,h2,h3,h4⟩
   ·omega
   ·simp only;rw[hs,m7,hlb,aa,ad,aq];refine⟨_,rfl,?_⟩
    have hms:i*s+s<=n*s:=by
     have:=a9 s (show i+1<=n by omega);rw[d3] at this;exact this
    rw[VS,GS];refine⟨id,off+i*s,row,s,rfl,h2,by omega,?_⟩;have:=(h4.drop (i*s)).take s;rw[cb,a4,cc,bi i4] at this;exact this
  | buf o n es c=>
   simp only at h;obtain⟨⟨hlt,hse⟩,h⟩:=cr h;cases h;subst hse;have hlb:blt i n=true:=Ll hlt;rw[VS] at hv;subst hv;simp only;rw[hs,m7,hlb,aa,ad,aq];exact⟨_,rfl,by rw[VS,bc]⟩
  | sub o off n es c=>
   simp only at h;obtain⟨⟨hlt,hse⟩,h⟩:=cr h;cases h;subst hse;have hlb:blt i n=true:=Ll hlt;rw[VS] at hv;subst hv;simp only;rw[hs,m7,hlb,aa,ad,aq];exact⟨_,rfl,by rw[VS]⟩
  | _=>simp at h
def LW{iv:SV}{ix:AV}(hv:VS θ ρ v x)(hi:VS θ ρ iv ix)(h:Dw P t v iv=some w):∃y,vp P t x ix=some y/\VS θ ρ w y:=by
 unfold Dw at h;obtain⟨i,hin,h2⟩:=ul h;clear h;unfold vp;rw[DJ hi hin,m7]
 cases v with
 | ag cs=>
  simp only at h2;obtain⟨q,hq,h⟩:=ul h2;obtain⟨hu,hs⟩:=Fa hq;obtain⟨hlt,h⟩:=cr h;rw[hu];rw[VS] at hv;obtain⟨aS,rfl,hv⟩:=hv;simp only;rw[hs,m7,Ll hlt,aq];exact tY hv h
 | a v=>
  cases v with
  | str s=>
   simp only at h2
   cases hk:jc P t with
   | str=>
    rw[hk] at h2;simp only at h2;rw[zf hk];rw[VS] at hv;subst hv;simp only;obtain⟨b,hb,rfl⟩:=az h2;rw[hb];exact⟨_,rfl,by rw[VS]⟩
   | _=>rw[hk] at h2;cases h2
  | _=>simp at h2
 | _=>simp at h2
def Mz{lo hi mx:Option AV}(hv:VS θ ρ v x)(h1:nk P t v lo hi mx=some w):∃y,vP P h t x lo hi mx=some y/\VS θ ρ w y:=by
 unfold nk at h1;unfold vP;split at h1
 ·rename_i s hk;rw[zf hk];rw[VS] at hv;subst hv
  cases mx with
  | some _=>cases h1
  | none=>
   simp only at h1 ⊢;obtain⟨b,hb,rfl⟩:=az h1;rw[hb];exact⟨_,rfl,by rw[VS]⟩
 ·rename_i n es cs hk
  cases mx with
  | some m=>
   simp only at h1;obtain⟨⟨e,s⟩,hq,h1⟩:=ul h1;obtain⟨hu,hs⟩:=gr hq;simp only at hu hs h1;rw[hu];obtain⟨⟨rfl,h2,h3,h4⟩,h5⟩:=cr h1;cases h5;subst h4;obtain⟨hv0,rfl,h2⟩:=ul h2
   have hb:∀cap,cO n cap none (some hv0) (some m)=some (0,0,some 0):=by
    intro cap;unfold cO;simp only;have h2':df hv0=some 0:=h2
    have hf:qm n cap 0=true:=by unfold qm;rw[fc (bd n)];rfl
    rw[h3,m7,hf,aq,h2'];rfl
   rw[VS,GS] at hv
   rcases hv with⟨rfl,rfl,o,e',c,rfl,ho,hoe⟩ | ⟨id,off,cap,row,rfl,h6,h7,h8⟩
   ·simp only;rw[hs,m7,hb,m7];simp only
    cases o with
    | none=>exact⟨_,rfl,by rw[VS];exact⟨none,0,rfl,λh=>un rfl h⟩⟩
    | some q=>
     obtain⟨id,off⟩:=q;rw[hoe ge];simp only;rw[aa,aq];exact⟨_,rfl,by rw[VS];exact⟨_,_,rfl,λ_=>rfl⟩⟩
   ·simp only;rw[hs,m7,hb,m7];simp only;rw[aa,aq];exact⟨_,rfl,by rw[VS];exact⟨_,_,rfl,λ_=>rfl⟩⟩
  | none=>
   simp only at h1;obtain⟨⟨e,s⟩,hq,h1⟩:=ul h1;obtain⟨hu,hs⟩:=gr hq;simp only at hu hs;rw[hu];obtain⟨⟨l,hh,m⟩,hb,h1⟩:=ul h1;obtain⟨hse,h1⟩:=cr h1;cases h1;simp only at hse;subst hse
   have hbd:∀cap,(cO n cap lo hi none=some (l,hh,cap))/\l<=hh/\hh<=n:=by
    intro cap;unfold cO at hb ⊢;simp only at hb ⊢;obtain⟨q,hq,hb⟩:=ul hb
    have hq2:oP n cap hi=some q/\q<=n:=by
     cases hi with
     | none=>simp only[oP,qr] at hq ⊢;exact⟨hq,by omega⟩
     | some hv=>
      simp only[oP] at hq ⊢;obtain⟨k,hk,hq⟩:=ul hq;obtain⟨hf,hq⟩:=aH hq;cases hq;simp only[qm,dE] at hf;rw[hk,m7];unfold qm;rw[hf,cn,aq];exact⟨rfl,jq hf⟩
    rw[hq2.1,m7]
    cases lo with
    | none=>simp only[qr,m8] at hb ⊢;obtain⟨rfl,rfl,_⟩:=hb;exact⟨by simp,bd _,hq2.2⟩
    | some lv=>
     simp only at hb ⊢;obtain⟨k,hk,hb⟩:=ul hb;obtain⟨hf,hb⟩:=aH hb;simp only[qr,m8] at hb;obtain⟨rfl,rfl,_⟩:=hb;rw[hk,m7,hf,aq];exact⟨by simp,jq hf,hq2.2⟩
   rw[VS,GS] at hv
   rcases hv with⟨rfl,rfl,o,e',c,rfl,ho,hoe⟩ | ⟨id,off,cap,row,rfl,h2,h3,h4⟩
   ·obtain⟨b1,b2,b3⟩:=hbd c
    have hl0:l=0:=by omega
    have hh0:hh=0:=by omega
    subst hl0;subst hh0;simp only;rw[hs,m7,b1,m7];simp only
    cases o with
    | none=>
     exact⟨_,rfl,by rw[VS,GS];exact .inl ⟨rfl,by simp,none,0,some 0,rfl,λ_=>rfl,λh=>un rfl h⟩⟩
    | some q=>
     obtain⟨id,off⟩:=q;rw[hoe ge];simp only;rw[aa,aq];exact⟨_,rfl,by rw[VS,GS];exact .inl ⟨rfl,by simp,_,_,_,rfl,λh=>(by cases h),λ_=>rfl⟩⟩
   ·obtain⟨b1,b2,b3⟩:=hbd cap;simp only;rw[hs,m7,b1,m7];simp only;rw[aa,aq];refine⟨_,rfl,?_⟩;rw[VS,GS];have m1:l*s<=hh*s:=a9 s b2;have m2:hh*s<=n*s:=a9 s b3;refine .inr ⟨id,off+l*s,bD cap l,row,rfl,h2,by rw[Nat.sub_mul];omega,?_⟩;have:=(h4.drop (l*s)).take ((hh-l)*s);rw[cb,a4,cc,bi (by rw[Nat.sub_mul];omega)] at this;exact this
 ·rename_i o n es c hk
  cases mx with
  | some _=>cases h1
  | none=>
   simp only at h1;obtain⟨⟨e,s⟩,hq,h1⟩:=ul h1;obtain⟨hu,hs⟩:=gr hq;simp only at hu hs;rw[hu];obtain⟨⟨l,hh,m⟩,hb,h1⟩:=ul h1;obtain⟨hse,h1⟩:=cr h1;cases h1;simp only at hse;subst hse;rw[VS] at hv;subst hv;simp only;rw[hs,m7,hb,m7];simp only;rw[aa,aq]
   cases lo with
   | none=>
    have hl0:l=0:=by
     unfold cO at hb;simp only at hb;obtain⟨q,hq,hb⟩:=ul hb;simp only[qr,m8] at hb;exact hb.1.symm
    subst hl0;exact⟨_,rfl,by rw[VS,bN]⟩
   | some _=>exact⟨_,rfl,by rw[VS,bc]⟩
 ·rename_i o off n es c hk
  cases mx with
  | some _=>cases h1
  | none=>
   simp only at h1;obtain⟨⟨e,s⟩,hq,h1⟩:=ul h1;obtain⟨hu,hs⟩:=gr hq;simp only at hu hs;rw[hu];obtain⟨⟨l,hh,m⟩,hb,h1⟩:=ul h1;obtain⟨hse,h1⟩:=cr h1;cases h1;simp only at hse;subst hse;rw[VS] at hv;subst hv;simp only;rw[hs,m7,hb,m7];simp only;rw[aa,aq];exact⟨_,rfl,by rw[VS]⟩
 ·rename_i hk;obtain⟨⟨e,s⟩,hq,h1⟩:=ul h1;obtain⟨hu,hs⟩:=gr hq;simp only at hu hs;rw[hu];obtain⟨⟨l,hh,m⟩,hb,rfl⟩:=az h1;rw[VS] at hv;subst hv;simp only;rw[hs,m7,hb,m7];exact⟨_,rfl,by rw[VS]⟩
 ·rename_i e0 hk;obtain⟨⟨e,s⟩,hq,h1⟩:=ul h1;obtain⟨hu,hs⟩:=gr hq;simp only at hu hs;rw[hu];obtain⟨⟨l,hh,m⟩,hb,h1⟩:=ul h1;obtain⟨⟨hl0,hh0,hm0,hse⟩,h5⟩:=cr h1;clear h1;cases h5;simp only at hse;subst hl0;subst hh0;subst hm0;subst hse;rw[VS] at hv;obtain⟨o,e',rfl,hoe⟩:=hv;simp only;rw[hs,m7,hb,m7];simp only
  cases o with
  | none=>exact⟨_,rfl,by rw[VS];exact⟨none,0,rfl,λh=>un rfl h⟩⟩
  | some q=>
   obtain⟨id,off⟩:=q;rw[hoe ge];simp only;rw[aa,aq];exact⟨_,rfl,by rw[VS];exact⟨_,_,rfl,λ_=>rfl⟩⟩
 ·cases h1
end
section
variable {θ θ':Nat->Loc} {ρ ρ0:ko} {P:Program}
variable{h0:En}{h:H}{S:List SO}{v:SV}{x:AV}
def Kg(hR:RS θ ρ0 ρ h0 h S)(hv:VS θ ρ v x){e:List AV×List SV}(he:A6 S v=some e):
 (x=.map none/\e=([],[]))\/∃id l c,x=.map (some id)/\h.mapOf id=some (l,c)/\l.map (·.1)=e.1/\cZ θ ρ e.2 (l.map (·.2.1)):=by
 unfold A6 at he;split at he
 ·rename_i o;rw[VS] at hv;subst hv;split at he
  ·rename_i ks vs b hS;cases he;obtain⟨_,l,c,q1,⟨q2,_⟩,q3⟩:=hR.obj o _ hS gt;exact .inr ⟨_,l,c,rfl,by unfold H.mapOf;rw[q1],q2,q3⟩
  ·cases he
 ·cases he;rw[VS,GS] at hv;obtain⟨id,l,c,rfl,h2,h3,h4⟩:=hv;exact .inr ⟨id,l,c,rfl,by unfold H.mapOf;rw[(hR.row id _ h2).2.1],h3.1,h4.vs⟩
 ·cases he;rw[VS] at hv;subst hv;exact .inl ⟨rfl,rfl⟩
 ·cases he
variable{t:TypeId}{w:SV}{y:AV}
def ID(hR:RS θ ρ0 ρ h0 h S){k:SV}{ok:Bool}(hv:VS θ ρ v x)(hk:VS θ ρ k y)(hl:jm P S t v k ok=some w):∃z,rN P h t x y ok=some z/\VS θ ρ w z:=by
 unfold jm at hl;obtain⟨⟨kt,et⟩,hm,hl⟩:=ul hl;obtain⟨ka,hka,hl⟩:=ul hl;have:=jO hk hka;subst this;obtain⟨hkey,hl⟩:=aH hl;obtain⟨⟨ks,vs⟩,hent,hl⟩:=ul hl;obtain⟨r,hf,hl⟩:=ul hl;obtain⟨⟨u,b⟩,hu,rfl⟩:=az hl;unfold rN;rw[hm,m7];simp only;rw[hkey,aq]
 have fin:∀z:AV,VS θ ρ u z->VS θ ρ (cond ok (.cx [u,.a (.bool b)]) u) (cond ok (.cx [z,.bool b]) z):=by
  intro z hz;cases ok
  ·exact hz
  ·rw[aq,aq,VS];refine⟨_,rfl,?_⟩;rw[aK];refine⟨z,_,rfl,hz,?_⟩;rw[aK];exact⟨_,[],rfl,by rw[VS],by rw[aZ]⟩
 rcases Kg hR hv hent with⟨rfl,he⟩ | ⟨id,l,c,rfl,h1,h2,h3⟩
 ·cases he;simp only[tJ,qr] at hf;subst hf;obtain⟨z,hz,hu⟩:=az hu;cases hu;simp only[m7,gW,hz,m6];exact⟨_,rfl,fin _ (As z)⟩
 ·simp only at h2 h3 hf;simp only[h1,m6,m7];rw[tK,h2,hf,m7]
  cases r with
  | none=>
   obtain⟨z,hz,hu⟩:=az hu;cases hu;simp only[hz,m6];exact⟨_,rfl,fin _ (As z)⟩
  | some i=>
   obtain⟨e,he,hu⟩:=az hu;cases hu;obtain⟨z,hz,kz⟩:=h3.get he;rw[a6] at hz;obtain⟨e3,he3,rfl⟩:=az hz;simp only[he3,m6];exact⟨_,rfl,fin _ kz⟩
def rP{α:Type}(g:AV×AV×Nat->α)(x:AV×AV×Nat):∀(l:List (AV×AV×Nat)) (i:Nat),(setAt x l i).map g=(l.map g).set i (g x)
 | [],i=>by cases i<;>rfl
 | e::l,0=>rfl
 | e::l,i+1=>by
  rw[setAt,am,am,List.set_cons_succ,rP g x l i]
def oi.snoc{l:List (AV×AV×Nat)}{c:Nat}(h:oi l c)(k v:AV):oi (l++[(k,v,c)]) (c+1):=by
 refine⟨?_,λe he=>?_⟩
 ·rw[bt,List.nodup_append];refine⟨h.1,by simp,?_⟩;intro a ha b hb;obtain⟨e,he,rfl⟩:=mem_map.1 ha;simp only[am,bv,List.mem_singleton] at hb;subst hb;exact Nat.ne_of_lt (h.2 e he)
 ·rcases List.mem_append.1 he with he | he
  ·exact Nat.lt_succ_of_lt (h.2 e he)
  ·rw[t6 he];exact bF _
def oi.Q7{l l':List (AV×AV×Nat)}{c:Nat}(h:oi l c)(hb:l'.map (·.2.2)=l.map (·.2.2)):oi l' c:=by
 refine⟨by rw[hb];exact h.1,λe he=>?_⟩;have:e.2.2∈l'.map (·.2.2):=List.mem_map_of_mem he;rw[hb] at this;obtain⟨e',he',q⟩:=mem_map.1 this;rw[<-q];exact h.2 e' he'
variable{S':List SO}
def zz(hR:RS θ ρ0 ρ h0 h S){k:SV}{z:AV}(hv:VS θ ρ v x)(hk:VS θ ρ k y)(hw:VS θ ρ w z)(hl:iF P S t v k w=some S'):∃h',kL P h t x y z=some h'/\RS θ ρ0 ρ h0 h' S':=by
 unfold iF at hl;obtain⟨⟨kt,et⟩,hm,hl⟩:=ul hl;obtain⟨ka,hka,hl⟩:=ul hl;have:=jO hk hka;subst this;obtain⟨hkey,hl⟩:=aH hl;unfold kL;rw[hm,m7];simp only;rw[hkey,aq]
 cases v with
 | map o=>
  rw[VS] at hv;subst hv;simp only at hl ⊢;split at hl
  ·rename_i ks vs b hS;obtain⟨_,l,c,q1,⟨q2,qb,qp⟩,q3⟩:=hR.obj o _ hS gt
   have hmo:h.mapOf (θ o).id=some (l,c):=by unfold H.mapOf;rw[q1]
   obtain⟨r,hf,hl⟩:=ul hl;rw[hmo,m7];simp only;rw[tK,q2,hf,m7]
   cases r with
   | none=>
    simp only at hl ⊢;cases hl;refine⟨_,rfl,hR.Tc hS ?_ ?_⟩
    ·refine⟨by rw[bt,q2];rfl,qb.snoc _ _,λp hp=>?_⟩;obtain⟨p0,hp0,rfl⟩:=az hp;obtain⟨e1,e2⟩:=qp p0 hp0;exact⟨by rw[bt,e1,e2];rfl,by rw[e2]⟩
    ·rw[bt];refine q3.app ?_;rw[am,bv,aK];exact⟨_,[],rfl,hw,by rw[aZ]⟩
   | some i=>
    simp only at hl ⊢;obtain⟨k0,hk0,hl⟩:=ul hl;obtain⟨hst,hl⟩:=aH hl;cases hl;rw[<-q2,a6] at hk0;obtain⟨e3,he3,rfl⟩:=az hk0;rw[he3,m7,hst,aq];refine⟨_,rfl,hR.Tc hS ?_ ?_⟩
    ·have hb:(setAt (y,z,e3.2.2) l i).map (·.2.2)=l.map (·.2.2):=by
      rw[rP];apply List.ext_getElem?;intro j;rw[List.getElem?_set];split
      ·rename_i e;subst e;split
       ·rw[a6,he3];rfl
       ·rename_i hl;rw[a0] at hl;rw[a7 (by rw[a0];omega)]
      ·rfl
     exact⟨by rw[rP,q2],qb.Q7 hb,λp hp=>by rw[hb];exact qp p hp⟩
    ·rw[rP];exact q3.set i hw
  ·cases hl
 | _=>simp at hl
def cZ.erase:∀{ds:List SV} {aS:List AV} (i:Nat),cZ θ ρ ds aS->cZ θ ρ (ds.eraseIdx i) (aS.eraseIdx i)
 | [],aS,i,h=>by rw[aZ] at h;subst h;rw[ct,ct,aZ]
 | d::ds,aS,i,h=>by
  rw[aK] at h;obtain⟨a,r,rfl,h1,h2⟩:=h
  cases i with
  | zero=>exact h2
  | succ i=>rw[a5,a5,aK];exact⟨a,_,rfl,h1,cZ.erase i h2⟩
def fe{α β:Type}(g:α->β):∀(l:List α) (i:Nat),(l.eraseIdx i).map g=(l.map g).eraseIdx i
 | [],i=>by simp
 | a::l,0=>rfl
 | a::l,i+1=>by rw[a5,am,am,a5,fe g l i]
def QB(hR:RS θ ρ0 ρ h0 h S){k:SV}(hv:VS θ ρ v x)(hk:VS θ ρ k y)(hl:LF P S t v k=some S'):∃h',tu P h t x y=some (.cx [],h')/\RS θ ρ0 ρ h0 h' S':=by
 unfold LF at hl;obtain⟨⟨kt,et⟩,hm,hl⟩:=ul hl;obtain⟨ka,hka,hl⟩:=ul hl;have:=jO hk hka;subst this;obtain⟨hkey,hl⟩:=aH hl;unfold tu;rw[hm,m7];simp only;rw[hkey,aq]
 cases v with
 | map o=>
  rw[VS] at hv;subst hv;simp only at hl ⊢;split at hl
  ·rename_i ks vs b hS;obtain⟨_,l,c,q1,⟨q2,qb,qp⟩,q3⟩:=hR.obj o _ hS gt
   have hmo:h.mapOf (θ o).id=some (l,c):=by unfold H.mapOf;rw[q1]
   obtain⟨r,hf,rfl⟩:=az hl;rw[hmo,m7];simp only;rw[tK,q2,hf,m6]
   cases r with
   | none=>exact⟨_,rfl,hR⟩
   | some i=>
    refine⟨_,rfl,hR.Tc hS ?_ ?_⟩
    ·refine⟨by rw[fe,q2],⟨by rw[fe];exact qb.1.sublist (List.eraseIdx_sublist _ _),λe he=>qb.2 e (List.mem_of_mem_eraseIdx he)⟩,λp hp=>?_⟩;obtain⟨p0,hp0,rfl⟩:=az hp;obtain⟨e1,e2⟩:=qp p0 hp0;exact⟨by rw[fe,e1],e2⟩
    ·rw[fe];exact q3.erase i
  ·cases hl
 | _=>simp at hl
variable{n:Nat}
def QV(hR:RS θ ρ0 ρ h0 h S)(hv:VS θ ρ v x)(hl:zh P S t v=some n):F9 P h t x=some (.int .i64 (n:Int)):=by
 unfold zh at hl;unfold F9;split at hl
 ·rename_i s hk;rw[zf hk];rw[VS] at hv;subst hv;cases hl;rfl
 ·rename_i n' _ cs hk;obtain⟨e,hu⟩:=pT hk;rw[hu];rw[VS,GS] at hv;cases hl
  rcases hv with⟨rfl,_,o,e',c,rfl,_,_⟩ | ⟨id,off,cap,row,rfl,_⟩<;>rfl
 ·rename_i o n' _ c hk;obtain⟨e,hu⟩:=pT hk;rw[hu];rw[VS] at hv;subst hv;cases hl;rfl
 ·rename_i n' _ c hk;obtain⟨e,hu⟩:=pT hk;rw[hu];rw[VS] at hv;subst hv;cases hl;rfl
 ·rename_i hk;obtain⟨kt,et,hu⟩:=Oy hk;rw[hu];obtain⟨e,he,rfl⟩:=az hl
  rcases Kg hR hv he with⟨rfl,rfl⟩ | ⟨id,l,c,rfl,h1,h2,h3⟩
  ·rfl
  ·simp only[h1,m6,<-h2,a0];rfl
 ·rename_i o off n' _ c hk;obtain⟨e,hu⟩:=pT hk;rw[hu];rw[VS] at hv;subst hv;cases hl;rfl
 ·rename_i e hk;obtain⟨e,hu⟩:=pT hk;rw[hu];rw[VS] at hv;obtain⟨o,e',rfl,_⟩:=hv;cases hl;rfl
 ·cases hl
def GV(hR:RS θ ρ0 ρ h0 h S){s m:Nat}{new:List SV}(hv:VS θ ρ v x)(hl:um S s v=some (m,new)):
 ∃o es c xs,x=.slice o m es c/\(beq es s||beq m 0)=true/\cG h o m s=some xs/\cZ θ ρ new xs:=by
 unfold um at hl;split at hl
 ·rename_i n e cs;obtain⟨hb,hl⟩:=cr hl;cases hl;subst hb;rw[VS,GS] at hv
  rcases hv with⟨rfl,rfl,o,e',c,rfl,_,_⟩ | ⟨id,off,cap,row,rfl,h2,h3,h4⟩
  ·refine⟨o,e',c,[],rfl,by simp,?_,by rw[aZ]⟩;unfold cG
   cases o with
   | none=>rfl
   | some q=>rfl
  ·refine⟨_,e,cap,(row.drop off).take (m*e),rfl,by rw[aa,cn],?_,h4.vs⟩;unfold cG;simp only;cases hm:beq m 0
   ·rw[aA,mz,GU hR h2];simp only[m7,lF];rw[fc h3,aq]
   ·have:=cS hm;subst this;rw[aq,bN,bk]
 ·rename_i o n e c;split at hl
  ·rename_i cs hS;obtain⟨⟨hes,hle⟩,hl⟩:=cr hl;cases hl;subst hes;rw[VS] at hv;subst hv;obtain⟨_,aS,q1,q2,_⟩:=hR.obj o _ hS gt;refine⟨_,e,c,aS.take (m*e),rfl,by rw[aa,cn],?_,q2.take _⟩;unfold cG;simp only;cases hm:beq m 0
   ·rw[aA,mz];unfold sf;rw[q1];simp only[m7,lF];show lF aS 0 (m*e)=_;unfold lF;rw[fc (show 0+m*e<=aS.length by rw[q2.length];omega),aq,b6]
   ·have:=cS hm;subst this;rw[aq,bN,bk]
  ·cases hl
 ·cases hl;rw[VS] at hv;subst hv;exact⟨none,0,some 0,[],rfl,by simp,rfl,by rw[aZ]⟩
 ·rename_i o off n e c;split at hl
  ·rename_i cs hS;obtain⟨⟨hes,hle⟩,hl⟩:=cr hl;cases hl;subst hes;rw[VS] at hv;subst hv;obtain⟨_,aS,q1,q2,_⟩:=hR.obj o _ hS gt;refine⟨_,e,c,(aS.drop off).take (m*e),rfl,by rw[aa,cn],?_,(q2.drop off).take _⟩;unfold cG;simp only;cases hm:beq m 0
   ·rw[aA,mz];unfold sf;rw[q1];simp only[m7,lF];show lF aS off (m*e)=_;unfold lF;rw[fc (show off+m*e<=aS.length by rw[q2.length];omega),aq]
   ·have:=cS hm;subst this;rw[aq,bN,bk]
  ·cases hl
 ·cases hl;rw[VS] at hv;obtain⟨o,e',rfl,_⟩:=hv;refine⟨o,e',some 0,[],rfl,by simp,?_,by rw[aZ]⟩;unfold cG
  cases o with
  | none=>rfl
  | some q=>rfl
 ·cases hl
def Gq{a b:Nat}(h:a≠b):beq a b=false:=by
 cases hb:beq a b
 ·rfl
 ·exact un (cS hb) h
def IM(hR:RS θ ρ0 ρ h0 h S){xt e:TypeId}{s m:Nat}{z:AV}{new:List SV}(hz:di P e=some z)(hzl:z.cells.length=s)(hw:VS θ ρ w y)(hl:xV P S xt s z w=some (m,new)):
 ∃xs,my P h e s xt y=some (m,xs)/\cZ θ ρ new xs:=by
 unfold xV at hl;unfold my;split at hl
 ·rename_i hk;obtain⟨e',hux⟩:=pT hk;obtain⟨o,es,c,xs,rfl,k1,k2,k3⟩:=GV hR hw hl;rw[hux];simp only;rw[k1,aq,k2];exact⟨xs,rfl,k3⟩
 ·obtain⟨hi,hl⟩:=aH hl;obtain⟨n,hn,hl⟩:=ul hl;obtain⟨hb,hl⟩:=cr hl;cases hl;unfold isInt at hi;split at hi
  ·rename_i kk hu;rw[hu];simp only;rw[DJ hw hn,m7,hz,m7,fc hb,hzl,aa,ad,aq];exact⟨_,rfl,cZ.a _⟩
  ·cases hi
 ·cases hl
variable{r:SV}
def H2(hR:RS θ ρ0 ρ h0 h S){st xt:TypeId}{kill:Option Nat}(hv:VS θ ρ v x)(hw:VS θ ρ w y)(hl:xB P S st xt v w=some (r,S',kill)):
 ∃z h' θ',tf P h st xt x y=some (z,h')/\RS θ' ρ0 ρ h0 h' S'/\VS θ' ρ r z/\∀v x,VS θ ρ v x->VS θ' ρ (jS kill v) x:=by
 unfold xB at hl;have hl2:=ul hl;clear hl;obtain⟨⟨e,s⟩,hel,hl⟩:=hl2;obtain⟨hu,hs⟩:=gr hel;simp only at hu hs hl;obtain⟨i,hi,rfl⟩:=az hs;have hl2:=ul hl;clear hl;obtain⟨z,hz,hl⟩:=hl2;have hl2:=cr hl;clear hl;obtain⟨⟨b1,b2,b3⟩,hl⟩:=hl2;have hl2:=ul hl;clear hl;obtain⟨⟨m,new⟩,hrow,hl⟩:=hl2;unfold pG at b3;rw[hi] at b3;simp only at b3 hl;have b2':=Gq b2;obtain⟨xs,happ,k3⟩:=IM hR hz b1 hw hrow;unfold tf;rw[hu];by_cases hm:m=0
 ·rw[ut hm] at hl
  have hmb:beq m 0=true:=by rw[hm];rfl
  unfold Nn at hl;split at hl
  ·cases hl;have hv':=hv;rw[VS] at hv;subst hv;simp only[hi,hz,m7,b1,b2',b3,aa,fc (show 0<=1000000 by omega),aT,ad,aq,happ,hmb];exact⟨_,_,θ,rfl,hR,hv',λv x h=>h⟩
  ·obtain⟨hn,hl⟩:=cr hl;cases hl;have hv':=hv;rw[VS] at hv;subst hv;simp only[hi,hz,m7,b1,b2',b3,aa,fc hn,aT,ad,aq,happ,hmb];exact⟨_,_,θ,rfl,hR,hv',λv x h=>h⟩
  ·cases hl;have hv':=hv;rw[VS] at hv;obtain⟨o',e',rfl,_⟩:=hv;simp only[hi,hz,m7,b1,b2',b3,aa,fc (show 0<=1000000 by omega),aT,ad,aq,happ,hmb];exact⟨_,_,θ,rfl,hR,hv',λv x h=>h⟩
  ·cases hl
 ·rw[v6 hm] at hl;have hmb:=Gq hm;have hl2:=cr hl;clear hl;obtain⟨⟨b4,b5⟩,hl⟩:=hl2;have hone:=mw k3 b5;unfold Lj at hl;split at hl
  ·rw[VS] at hv;subst hv;cases hl;obtain⟨n1,n2⟩:=hR.new (so:=.cells new) (ob:=.cells xs h.next) (.inl ⟨new,xs,rfl,rfl,k3⟩);simp only[hi,hz,m7,b1,b2',b3,aa,fc (show 0<=1000000 by omega),aT,ad,aq,happ,hmb,aA,fc b4,H.mX];refine⟨_,_,_,rfl,n1,?_,n2⟩;rw[VS,cH]
  ·rename_i o' n es';rw[VS] at hv;subst hv;split at hl
   ·rename_i cs hS;obtain⟨⟨c1,c2,c3⟩,hl2⟩:=cr hl;cases hl2;subst c1;obtain⟨_,aS,q1,q2,q3⟩:=hR.obj o' _ hS gt;obtain⟨f1,f2,f3⟩:=hR.fork hS k3 q1 c3
    have hle:ble (n*i.size) aS.length=true:=by rw[q2.length];exact fc c3
    simp only[hi,hz,m7,b1,b2',b3,fc c2,aT,ad,aq,happ,hmb,aA,fc b4,aa,q1,hle,hone,bc];refine⟨_,_,_,rfl,f2,?_,f3⟩;rw[VS,cH,f1]
   ·cases hl
  ·rename_i e';obtain⟨c1,hl2⟩:=cr hl;cases hl2;rw[VS] at hv;obtain⟨o',e'',rfl,ho'⟩:=hv;obtain⟨n1,n2⟩:=hR.new (so:=.cells new) (ob:=.cells xs h.next) (.inl ⟨new,xs,rfl,rfl,k3⟩)
   cases o' with
   | none=>
    simp only[hi,hz,m7,b1,b2',b3,aa,fc (show 0<=1000000 by omega),aT,ad,aq,happ,hmb,aA,fc b4,H.mX];refine⟨_,_,_,rfl,n1,?_,n2⟩;rw[VS,cH]
   | some q=>
    have:=ho' ge;subst this;subst c1;obtain⟨id,off⟩:=q
    have hnl:ble (0+m) 0=false:=by
     cases hb:ble (0+m) 0
     ·rfl
     ·have:=md hb;omega
    have hsc:cG h (some (id,off)) 0 i.size=some []:=rfl;simp only[hi,hz,m7,b1,b2',b3,aa,fc (show 0<=1000000 by omega),aT,ad,aq,happ,hmb,aA,fc b4,H.mX,hnl,hsc,m6,dc];refine⟨_,_,_,rfl,n1,?_,n2⟩;rw[VS,cH,bc]
  ·rename_i o' n es' c';rw[VS] at hv;subst hv;split at hl
   ·rename_i cs hS;obtain⟨⟨c1,c2,c3,c4⟩,hl2⟩:=cr hl;cases hl2;subst c1;obtain⟨_,aS,q1,q2,q3⟩:=hR.obj o' _ hS gt;obtain⟨n1,n2⟩:=hR.new (so:=.cells (cs.take (n*i.size)++new)) (ob:=.cells (aS.take (n*i.size)++xs) h.next) (.inl ⟨_,_,rfl,rfl,(q2.take _).app k3⟩)
    have hnl:ble (n+m) c'=false:=by
     cases hb:ble (n+m) c'
     ·rfl
     ·have:=md hb;omega
    have hsc:cG h (some ((θ o').id,0)) n i.size=some (aS.take (n*i.size)):=by
     unfold cG;simp only;cases hm:beq n 0
     ·rw[aA,mz];unfold sf;rw[q1];simp only[m7];show lF aS 0 (n*i.size)=_;unfold lF;rw[fc (show 0+n*i.size<=aS.length by rw[q2.length];omega),aq,b6]
     ·have:=cS hm;subst this;rw[aq,bN,bk]
    simp only[hi,hz,m7,b1,b2',b3,fc c2,aT,ad,aq,happ,hmb,aA,fc b4,aa,hnl,hsc,m6,H.mX];refine⟨_,_,_,rfl,n1,?_,n2⟩;rw[VS,cH]
   ·cases hl
  ·cases hl
def Qn{x:SV}{a:AV}{c:Nat}(hv:VS θ ρ x a)(hc:H8 x=some c):∃o n e,a=.slice o n e (some c):=by
 unfold H8 at hc;split at hc
 ·cases hc;rw[VS] at hv;exact⟨_,_,_,hv⟩
 ·cases hc;rw[VS] at hv;exact⟨_,_,_,hv⟩
 ·cases hc;rw[VS] at hv;exact⟨_,_,_,hv⟩
 ·cases hc;rw[VS] at hv;obtain⟨o,e',rfl,_⟩:=hv;exact⟨_,_,_,rfl⟩
 ·cases hc
variable{o:Nat}
def Ns{x:SV}{a:AV}{off e:Nat}(hv:VS θ ρ x a)(hc:TN x=some (o,off,n,e)):∃c,a=.slice (some ((θ o).id,off)) n e c:=by
 unfold TN at hc;split at hc
 ·cases hc;rw[VS] at hv;exact⟨_,hv⟩
 ·cases hc;rw[VS] at hv;exact⟨_,hv⟩
 ·cases hc
def NS(hR:RS θ ρ0 ρ h0 h S){kill:Option Nat}(hv:VS θ ρ v x)(hw:VS θ ρ w y)(hl:Ke P S t v w=some (r,S',kill)):
 ∃z h' θ',Ft P h t x y=some (z,h')/\RS θ' ρ0 ρ h0 h' S'/\VS θ' ρ r z/\∀v x,VS θ ρ v x->VS θ' ρ (jS kill v) x:=by
 unfold Ke at hl;obtain⟨⟨e,s⟩,hel,hl⟩:=ul hl;obtain⟨hu,hs⟩:=gr hel;obtain⟨⟨o,off,dl,des⟩,hat,hl⟩:=ul hl;obtain⟨⟨m,new⟩,hrow,hl⟩:=ul hl;obtain⟨cap,rfl⟩:=Ns hv hat;obtain⟨o',es,c,xs,rfl,k1,k2,k3⟩:=GV hR hw hrow;simp only at hl hu hs hrow k2;unfold Ft;rw[hu];simp only;rw[hs,m7];unfold NR at hl;by_cases hn:Nat.min m dl=0
 ·rw[ut hn] at hl;cases hl;rw[hn];exact⟨_,_,θ,rfl,hR,by rw[VS],λv x h=>h⟩
 ·rw[v6 hn] at hl;split at hl
  ·rename_i cs hS;obtain⟨⟨c1,c2,c3,c4⟩,hl2⟩:=cr hl;cases hl2;subst c1;have hm:m≠0:=λe=>hn (by rw[e];exact Nat.zero_min _)
   have hes:es=des:=by
    rw[Gq hm,dE] at k1;exact cS k1
   subst hes;have hmn:Nat.min m dl<=m:=Nat.min_le_left _ _;generalize Nat.min m dl=n at *
   obtain⟨id,off',row,rfl,hch⟩:∃id off' row,o'=some (id,off')/\sf h.aW id=some row/\off'+m*es<=row.length/\xs=(row.drop off').take (m*es):=by
    unfold cG at k2
    cases o' with
    | none=>simp[Gq hm] at k2
    | some q=>
     obtain⟨id,off'⟩:=q;simp only[Gq hm,aA,mz] at k2;obtain⟨row,hr,k2⟩:=ul k2;unfold lF at k2;obtain⟨hb,k2⟩:=aH k2;exact⟨id,off',row,rfl,hr,md hb,by cases k2;rfl⟩
   have hle:n*es<=m*es:=a9 _ hmn
   have hsc:cG h (some (id,off')) n es=some (xs.take (n*es)):=by
    unfold cG;simp only[Gq hn,aA,mz,hch.1,m7];unfold lF;rw[fc (show off'+n*es<=row.length by omega),aq,hch.2.2,cc,bi hle]
   have hl1:(new.take (n*es)).length=n*es:=by rw[ch,bi c3]
   obtain⟨h',e1,e2,e3⟩:=hR.store (off:=off) hS (k3.take (n*es)) (mw (k3.take _) c4) (by rw[hl1];exact c2);refine⟨_,h',_,?_,by rw[hl1] at e2;exact e2,by rw[VS],e3⟩;rw[Gq hn,aA,aa,ad,aq,hsc,m7];simp only[e1,m6];rfl
  ·cases hl
def Ly(hR:RS θ ρ0 ρ h0 h S){kill:Option Nat}(hv:VS θ ρ v x)(hl:Da P S t v=some (r,S',kill)):
 ∃z h' θ',yu P h t x=some (z,h')/\RS θ' ρ0 ρ h0 h' S'/\VS θ' ρ r z/\∀v x,VS θ ρ v x->VS θ' ρ (jS kill v) x:=by
 unfold Da at hl;obtain⟨⟨e,s⟩,hel,hl⟩:=ul hl;obtain⟨hu,hs⟩:=gr hel;obtain⟨z,hz,hl⟩:=ul hl;obtain⟨⟨o,off,n,es⟩,hat,hl⟩:=ul hl;obtain⟨cap,rfl⟩:=Ns hv hat;simp only at hl hu hs hz;unfold yu;rw[hu];simp only;rw[hs,m7,hz,m7];by_cases hn:n=0
 ·rw[ut hn] at hl;cases hl;subst hn;exact⟨_,_,θ,rfl,hR,by rw[VS];rfl,λv x h=>h⟩
 ·rw[v6 hn] at hl;split at hl
  ·rename_i cs hS;obtain⟨⟨c1,c2,c3,c4⟩,hl2⟩:=cr hl;cases hl2;subst c1
   have hl1:((rep z.cells n).map SV.a).length=n*es:=by
    rw[a0,gj,c2]
   obtain⟨h',e1,e2,e3⟩:=hR.store (off:=off) hS (cZ.a (rep z.cells n)) c4 (by rw[hl1];exact c3);refine⟨_,h',_,?_,by rw[hl1] at e2;exact e2,by rw[VS],e3⟩;rw[Gq hn,aA,aa,c2,aa,ad,aq];simp only[e1,m6];rfl
  ·cases hl
variable{vs:List SV}
def Fk(hR:RS θ ρ0 ρ h0 h S){b:Builtin}{ats:List TypeId}{xs:List AV}{kill:Option Nat}(hv:cZ θ ρ vs xs)(hl:gS P S b ats vs=some (r,S',kill)):
 ∃z h' θ',mM P h b ats xs=some (z,h')/\RS θ' ρ0 ρ h0 h' S'/\VS θ' ρ r z/\∀v x,VS θ ρ v x->VS θ' ρ (jS kill v) x:=by
 unfold gS at hl;split at hl
 ·rename_i st xt l x y;rw[aK] at hv;obtain⟨a,r1,rfl,h1,hv⟩:=hv;rw[aK] at hv;obtain⟨a2,r2,rfl,h2,hv⟩:=hv;rw[aZ] at hv;subst hv;have:=H2 hR h1 h2 hl;exact this
 ·rename_i t l x xs';rw[aK] at hv;obtain⟨a,r1,rfl,h1,hv⟩:=hv;obtain⟨n,hn,hl⟩:=az hl;cases hl;have:=QV hR h1 hn;refine⟨.int .i64 (n:Int),h,θ,?_,hR,?_,λv x h=>h⟩
  ·show(F9 P h t a).map (λv=>(v,h))=_;rw[this];rfl
  ·rw[VS]
 ·rename_i x l;rw[aK] at hv;obtain⟨a,r1,rfl,h1,hv⟩:=hv;obtain⟨n,hn,hl⟩:=az hl;cases hl;obtain⟨z,hz,kz⟩:=DG h1 hv hn;refine⟨z,h,θ,?_,hR,kz,λv x h=>h⟩;unfold mM;split<;>simp_all
 ·rename_i x l;rw[aK] at hv;obtain⟨a,r1,rfl,h1,hv⟩:=hv;obtain⟨n,hn,hl⟩:=az hl;cases hl;obtain⟨z,hz,kz⟩:=DG h1 hv hn;refine⟨z,h,θ,?_,hR,kz,λv x h=>h⟩;unfold mM;split<;>simp_all
 ·rename_i t l x k l';rw[aK] at hv;obtain⟨a,r1,rfl,h1,hv⟩:=hv;rw[aK] at hv;obtain⟨a2,r2,rfl,h2,hv⟩:=hv;obtain⟨S2,hS2,hl⟩:=az hl;cases hl;obtain⟨h',e1,e2⟩:=QB hR h1 h2 hS2;exact⟨_,h',θ,e1,e2,by rw[VS];rfl,λv x h=>h⟩
 ·rename_i dt l x y;rw[aK] at hv;obtain⟨a,r1,rfl,h1,hv⟩:=hv;rw[aK] at hv;obtain⟨a2,r2,rfl,h2,hv⟩:=hv;rw[aZ] at hv;subst hv;exact NS hR h1 h2 hl
 ·rename_i t l x;rw[aK] at hv;obtain⟨a,r1,rfl,h1,hv⟩:=hv;rw[aZ] at hv;subst hv;exact Ly hR h1 hl
 ·rename_i t l x;rw[aK] at hv;obtain⟨a,r1,rfl,h1,hv⟩:=hv;rw[aZ] at hv;subst hv;obtain⟨⟨e,s⟩,hel,hl⟩:=ul hl;obtain⟨hu,_⟩:=gr hel;obtain⟨c,hc,hl⟩:=az hl;cases hl;obtain⟨o,n,e',rfl⟩:=Qn h1 hc;refine⟨.int .i64 (c:Int),h,θ,?_,hR,by rw[VS],λv x h=>h⟩;show(match P.underlying t with | some (.slice _)=>some (AV.int .i64 (ofNat c),h) | _=>none)=_;rw[hu];rfl
 ·cases hl
def O6{c a b:Option SV}(h:KK c a b=some v):∃z x y,c=some (.a (.bool z))/\a=some x/\b=some y/\v=cond z x y:=by
 unfold KK at h;split at h
 ·cases h;exact⟨_,_,_,rfl,rfl,rfl,rfl⟩
 ·cases h
def FR.lL{f:Fm}{af:Nat->AV}{n:Nat}{kill:Option Nat}{wv:Nat->AV}(hF:FR θ ρ (aO f) af n wv)(hk:∀v x,VS θ ρ v x->VS θ' ρ (jS kill v) x):FR θ' ρ (aO (Ev.lL f kill)) af n wv:=by
 refine⟨λi=>?_,hF.u⟩;have:=hk _ _ (hF.v i)
 cases kill with
 | none=>exact this
 | some o=>show VS θ' ρ (aO (dB o f) i) _;rw[fD];exact this
variable{f:Fm}{af:Nat->AV}{wv:Nat->AV}
def FR.put(hF:FR θ ρ (aO f) af n wv){d:Nat}(hd:d<n)(hv:VS θ ρ v x):FR θ ρ (aO ((d,v)::f)) (A1 af d x) n wv:=by
 refine⟨λi=>?_,hF.u⟩;show VS θ ρ (if d=i then v else aO f i) _;by_cases hdi:d=i
 ·subst hdi;rw[ut rfl,ut hd,uR];exact hv
 ·rw[v6 hdi,rZ _ _ (λe=>hdi e.symm)];exact hF.v i
def FR.kill{f:Fm}{af:Nat->AV}{n:Nat}{kill:Option Nat}{wv:Nat->AV}(hF:FR θ ρ (aO f) af n wv)(hk:∀v x,VS θ ρ v x->VS θ' ρ (jS kill v) x){d:Nat}{v:SV}{x:AV}(hd:d<n)(hv:VS θ' ρ v x):FR θ' ρ (aO (pN f kill (some d) v)) (A1 af d x) n wv:=(hF.lL hk).put hd hv
def Pv(hR:RS θ ρ0 ρ h0 h S)(hF:FR θ ρ (aO f) af n wv){op:Op}{kill:Option Nat}(hop:dk P f S op=some (r,S',kill)):
 ∃rv h' θ',eB P (eo af n) h op=some [(rv,h')]/\RS θ' ρ0 ρ h0 h' S'/\VS θ' ρ r (US rv)/\∀v x,VS θ ρ v x->VS θ' ρ (jS kill v) x:=by
 have pure:∀{w:SV} {y:AV},eB P (eo af n) h op=some [(some y,h)]->VS θ ρ w y->some (w,S,(none:Option Nat))=some (r,S',kill)->∃rv h' θ',eB P (eo af n) h op=some [(rv,h')]/\RS θ' ρ0 ρ h0 h' S'/\VS θ' ρ r (US rv)/\∀v x,VS θ ρ v x->VS θ' ρ (jS kill v) x:=by
  intro w y h1 h2 h3;cases h3;exact⟨some y,h,θ,h1,hR,h2,λv x h=>h⟩
 have fresh:∀{so:SO} {ob:AO} {w:SV} {y:AV},eB P (eo af n) h op=some [(some y,{ h.lay h.next ob with next:=h.next+1 })]->((∃cs aS,so=.cells cs/\ob=.cells aS h.next/\cZ θ ρ cs aS)\/(so=.map [] [] none/\ob=.map [] 0))->VS (gL θ S.length ⟨h.next,h.next,h.next,h.next⟩) ρ w y->some (w,eJ S so,some S.length)=some (r,S',kill)->∃rv h' θ',eB P (eo af n) h op=some [(rv,h')]/\RS θ' ρ0 ρ h0 h' S'/\VS θ' ρ r (US rv)/\∀v x,VS θ ρ v x->VS θ' ρ (jS kill v) x:=by
  intro so ob w y h1 h2 h3 h4;cases h4;obtain⟨k1,k2⟩:=hR.new h2;exact⟨some y,_,_,h1,k1,h3,k2⟩
 cases op with
 | move x=>
  obtain⟨v,hv,e⟩:=az hop;obtain⟨a,ha,ka⟩:=bO hF hv;exact pure (by rw[Rp,ha];rfl) ka (by rw[e])
 | assign x=>
  obtain⟨v,hv,e⟩:=az hop;obtain⟨a,ha,ka⟩:=bO hF hv;exact pure (by rw[Mk,ha];rfl) ka (by rw[e])
 | pick c a b=>
  obtain⟨v,hv,e⟩:=az hop;obtain⟨z,x,y,h1,h2,h3,rfl⟩:=O6 hv;obtain⟨c',g1,k1⟩:=bO hF h1;obtain⟨a',g2,k2⟩:=bO hF h2;obtain⟨b',g3,k3⟩:=bO hF h3;rw[VS] at k1;subst k1;exact pure (w:=cond z x y) (y:=cond z a' b') (by rw[Rq,g1,g2,g3];rfl) (by cases z;exact k3;exact k2) (by rw[e])
 | alloc e=>
  obtain⟨z,hz,he⟩:=az hop;exact fresh (w:=.ptr S.length 0) (so:=.cells (z.cells.map .a)) (ob:=.cells z.cells h.next) (by rw[OV,hz];rfl) (.inl ⟨_,_,rfl,rfl,cZ.a _⟩) (by rw[VS,cH]) (by rw[he])
 | box e x=>
  obtain⟨v,hv,hop⟩:=ul hop;obtain⟨cs,hcs,he⟩:=az hop;obtain⟨a,ha,ka⟩:=bO hF hv;exact fresh (w:=.ptr S.length 0) (so:=.cells cs) (ob:=.cells a.cells h.next) (by rw[Tj,ha];rfl) (.inl ⟨_,_,rfl,rfl,vb ka hcs⟩) (by rw[VS,cH]) (by rw[he])
 | build tt ps=>
  obtain⟨l,hl,hop⟩:=ul hop;obtain⟨v,hv,he⟩:=az hop;obtain⟨aS,h1,k1⟩:=vQ hF hl;obtain⟨a,ha,ka⟩:=Lp k1 hv;exact pure (by rw[OX,h1,m7,ha];rfl) ka (by rw[he])
 | buildSlice tt m ps=>
  obtain⟨l,hl,hop⟩:=ul hop;obtain⟨q,hv,he⟩:=az hop;obtain⟨aS,h1,k1⟩:=vQ hF hl;obtain⟨cs,ha,ka⟩:=yq k1 hv;exact fresh (w:=.buf S.length m q.1 (some m)) (so:=.cells q.2) (ob:=.cells cs h.next) (by rw[Bg,h1,m7,ha];rfl) (.inl ⟨_,_,rfl,rfl,ka⟩) (by rw[VS,cH]) (by rw[he])
 | makeMap tt x=>
  cases x with
  | none=>
   have he:some ((SV.map S.length,eJ S (.map [] [] none),some S.length):SV×List SO×Option Nat)=some (r,S',kill):=hop;exact fresh (w:=.map S.length) (so:=.map [] [] none) (ob:=.map [] 0) (by rw[IT]) (.inr ⟨rfl,rfl⟩) (by rw[VS,cH]) he
  | some _=>simp[dk] at hop
 | makeSlice tt l c=>
  simp only[dk] at hop;split at hop
  ·rename_i la ca hl hc;obtain⟨q,hq,he⟩:=az hop;obtain⟨l',g1,k1⟩:=bO hF hl;obtain⟨c',g2,k2⟩:=bO hF hc;rw[VS] at k1 k2;subst k1;subst k2;refine fresh (w:=.buf S.length q.1 q.2.1 (some q.2.2.1)) (so:=.cells (q.2.2.2.map .a)) (ob:=.cells q.2.2.2 h.next) (y:=.slice (some (h.next,0)) q.1 q.2.1 (some q.2.2.1)) ?_ (.inl ⟨_,_,rfl,rfl,cZ.a _⟩) (by rw[VS,cH]) (by rw[he]);simp only[eB,pC,g1,g2,m7,hq,m6]
  ·cases hop
 | load tt a=>
  obtain⟨a',ha,hop⟩:=ul hop;obtain⟨v,hv,he⟩:=az hop;obtain⟨x,g1,k1⟩:=bO hF ha;obtain⟨y,g2,k2⟩:=Ga hR k1 hv;exact pure (by rw[Rn,g1,g2];rfl) k2 (by rw[he])
 | store tt a x=>
  obtain⟨a',ha,hop⟩:=ul hop;obtain⟨x',hx,hop⟩:=ul hop;obtain⟨S2,hS,he⟩:=az hop;cases he;obtain⟨p,g1,k1⟩:=bO hF ha;obtain⟨y,g2,k2⟩:=bO hF hx;obtain⟨h',θ',e1,e2,e3⟩:=MB hR k1 k2 hS;exact⟨none,h',θ',by rw[O2,g1,g2,e1];rfl,e2,by rw[VS];rfl,e3⟩
 | nilCheck x=>
  obtain⟨a',ha,hop⟩:=ul hop;obtain⟨v,hv,he⟩:=az hop;obtain⟨p,g1,k1⟩:=bO hF ha;obtain⟨e1,rfl⟩:=Q2 (P:=P) k1 hv;refine pure (y:=p) ?_ k1 (by rw[he]);simp only[eB,g1,m7,e1,m6]
 | binOp op t x y yt=>
  obtain⟨x',hx,hop⟩:=ul hop;obtain⟨y',hy,hop⟩:=ul hop;obtain⟨xa,hxa,hop⟩:=ul hop;obtain⟨ya,hya,hop⟩:=ul hop;obtain⟨v,hv,he⟩:=az hop;obtain⟨p,g1,k1⟩:=bO hF hx;obtain⟨q,g2,k2⟩:=bO hF hy;have e1:=jO k1 hxa;have e2:=jO k2 hya;subst e1;subst e2;exact pure (w:=.a v) (y:=v) (by rw[OW,g1,g2,m7,m7,hv];rfl) (by rw[VS]) (by rw[he])
 | unOp op t x=>
  obtain⟨x',hx,hop⟩:=ul hop;obtain⟨xa,hxa,hop⟩:=ul hop;obtain⟨v,hv,he⟩:=az hop;obtain⟨p,g1,k1⟩:=bO hF hx;have e1:=jO k1 hxa;subst e1;exact pure (w:=.a v) (y:=v) (by rw[Ug,g1,m7,hv];rfl) (by rw[VS]) (by rw[he])
 | convert s d x=>
  obtain⟨x',hx,hop⟩:=ul hop;obtain⟨xa,hxa,hop⟩:=ul hop;obtain⟨v,hv,he⟩:=az hop;obtain⟨p,g1,k1⟩:=bO hF hx;have e1:=jO k1 hxa;subst e1;exact pure (w:=.a v) (y:=v) (by rw[Rl,g1,m7,hv];rfl) (by rw[VS]) (by rw[he])
 | makeInterface t x=>
  simp only[dk] at hop;obtain⟨hi,hop⟩:=aH hop;obtain⟨v,hv,he⟩:=az hop;obtain⟨p,g1,k1⟩:=bO hF hv;refine pure (w:=.iface t v) (y:=.iface t p) ?_ (by rw[VS];exact⟨p,rfl,k1⟩) (by rw[he]);unfold Kr at hi
  cases hu:P.underlying t with
  | none=>rw[hu] at hi;cases hi
  | some d=>
   rw[hu] at hi;rw[OZ hu (by cases d<;>first | rfl | cases hi),g1];rfl
 | makeFunc g first cap=>
  cases g with
  | func g=>
   obtain⟨a,ha,hop⟩:=ul hop;obtain⟨b,hb,he⟩:=az hop;obtain⟨p,g1,k1⟩:=mq hF ha;obtain⟨q,g2,k2⟩:=mq hF hb;exact pure (w:=.fn g a b) (y:=.fn (.func g) p q) (by rw[Rm,g1,g2];rfl) (by rw[VS];exact⟨p,q,rfl,k1,k2⟩) (by rw[he])
  | method nm=>
   obtain⟨a,ha,hop⟩:=ul hop;obtain⟨a2,ha2,hop⟩:=ul hop;obtain⟨b,hb,hop⟩:=ul hop;obtain⟨b2,hb2,he⟩:=az hop;obtain⟨p,g1,k1⟩:=mq hF ha;obtain⟨q,g2,k2⟩:=mq hF hb;have e1:=oL k1 ha2;have e2:=oL k2 hb2;subst e1;subst e2;exact pure (w:=.a (.fn (.method nm) p q)) (y:=.fn (.method nm) p q) (by rw[Ro,g1,g2];rfl) (by rw[VS]) (by rw[he])
  | _=>simp[dk] at hop
 | slice tt x lo hi mx=>
  obtain⟨x',hx,hop⟩:=ul hop;obtain⟨lo',hlo,hop⟩:=ul hop;obtain⟨hi',hhi,hop⟩:=ul hop;obtain⟨mx',hmx,hop⟩:=ul hop;obtain⟨v,hv,he⟩:=az hop;obtain⟨p,g1,k1⟩:=bO hF hx;obtain⟨y,g2,k2⟩:=Mz (h:=h) k1 hv;refine pure (y:=y) ?_ k2 (by rw[he]);rw[O1,g1,D1 hF hlo,D1 hF hhi,D1 hF hmx];simp only[m7,g2,m6]
 | fieldAddr s x fl=>
  obtain⟨x',hx,hop⟩:=ul hop;obtain⟨v,hv,he⟩:=az hop;obtain⟨p,g1,k1⟩:=bO hF hx;obtain⟨y,g2,k2⟩:=A8 k1 hv;exact pure (by rw[DP,g1,m7,g2];rfl) k2 (by rw[he])
 | field s x fl=>
  obtain⟨x',hx,hop⟩:=ul hop;obtain⟨v,hv,he⟩:=az hop;obtain⟨p,g1,k1⟩:=bO hF hx;obtain⟨y,g2,k2⟩:=LO k1 hv;exact pure (by rw[OY,g1,m7,g2];rfl) k2 (by rw[he])
 | indexAddr t x i=>
  obtain⟨x',hx,hop⟩:=ul hop;obtain⟨i',hi,hop⟩:=ul hop;obtain⟨v,hv,he⟩:=az hop;obtain⟨p,g1,k1⟩:=bO hF hx;obtain⟨q,g3,k3⟩:=bO hF hi;obtain⟨y,g2,k2⟩:=Ba k1 k3 hv;exact pure (by rw[DQ,g1,g3,m7,m7,g2];rfl) k2 (by rw[he])
 | index t x i=>
  obtain⟨x',hx,hop⟩:=ul hop;obtain⟨i',hi,hop⟩:=ul hop;obtain⟨v,hv,he⟩:=az hop;obtain⟨p,g1,k1⟩:=bO hF hx;obtain⟨q,g3,k3⟩:=bO hF hi;obtain⟨y,g2,k2⟩:=LW k1 k3 hv;exact pure (by rw[O0,g1,g3,m7,m7,g2];rfl) k2 (by rw[he])
 | lookup t x k ok=>
  obtain⟨x',hx,hop⟩:=ul hop;obtain⟨i',hi,hop⟩:=ul hop;obtain⟨v,hv,he⟩:=az hop;obtain⟨p,g1,k1⟩:=bO hF hx;obtain⟨q,g3,k3⟩:=bO hF hi;obtain⟨y,g2,k2⟩:=ID hR k1 k3 hv;exact pure (by rw[Ml,g1,g3,m7,m7,g2];rfl) k2 (by rw[he])
 | mapUpdate t m k x=>
  obtain⟨m',hm,hop⟩:=ul hop;obtain⟨k',hk,hop⟩:=ul hop;obtain⟨x',hx,hop⟩:=ul hop;obtain⟨S2,hS,he⟩:=az hop;cases he;obtain⟨p,g1,k1⟩:=bO hF hm;obtain⟨q,g2,k2⟩:=bO hF hk;obtain⟨y,g3,k3⟩:=bO hF hx;obtain⟨h',e1,e2⟩:=zz hR k1 k2 k3 hS;refine⟨none,h',θ,?_,e2,by rw[VS];rfl,λv x h=>h⟩;rw[DR,g1,g2,g3];simp only[m7,e1,m6]
 | insert t m k x=>
  obtain⟨m',hm,hop⟩:=ul hop;obtain⟨k',hk,hop⟩:=ul hop;obtain⟨x',hx,hop⟩:=ul hop;obtain⟨S2,hS,he⟩:=az hop;cases he;obtain⟨p,g1,k1⟩:=bO hF hm;obtain⟨q,g2,k2⟩:=bO hF hk;obtain⟨y,g3,k3⟩:=bO hF hx;obtain⟨h',e1,e2⟩:=zz hR k1 k2 k3 hS;refine⟨none,h',θ,?_,e2,by rw[VS];rfl,λv x h=>h⟩;simp only[eB,g1,g2,g3,m7,e1,m6]
 | extract x i=>
  simp only[dk] at hop;split at hop
  ·rename_i vs hx;obtain⟨v,hv,he⟩:=az hop;obtain⟨p,g1,k1⟩:=bO hF hx;rw[VS] at k1;obtain⟨aS,rfl,k1⟩:=k1;obtain⟨y,g2,k2⟩:=k1.get hv;refine pure (y:=y) ?_ k2 (by rw[he]);rw[IS,g1];simp only[BS,g2,m6]
  ·cases hop
 | call c=>
  obtain⟨callee,args,ats⟩:=c
  cases callee with
  | builtin b=>
   obtain⟨xs,hxs,hop⟩:=ul hop;obtain⟨p,g1,k1⟩:=mq hF hxs;obtain⟨z,h',θ',e1,e2,e3,e4⟩:=Fk hR k1 hop;refine⟨some z,h',θ',?_,e2,e3,e4⟩;rw[IQ,g1,m7,e1];rfl
  | _=>simp[dk] at hop
 | _=>simp[dk] at hop
end
structure ez where
 f:Fm
 n:Nat
 S:List SO
 ds:List jG
def TO(ds:List jG)(j:Nat):AV:=match ds.reverse[j]? with
 | some d=>match d.fn with
  | some f=>.fn f d.args d.cap
  | none=>lV
 | none=>lV
def HQ(w:Nat->AV):List jG->Nat->AV
 | [],i=>w i
 | d::ds,i=>if 7000000<=i then TO (d::ds) (i-7000000) else w i
def jJ(ρ0:ko)(h0:En)(st:ez)(ast:iu):Prop:=ast.n=st.n/\ast.ds=st.ds/\∃θ ρ,RS θ ρ0 ρ h0 ast.h st.S/\FR θ ρ (aO st.f) ast.f st.n (HQ h0.w ast.ds)
def TY(ρ0:ko)(h0:En)(N:Nat)(Q:Ex->ez->Prop):Ex->iu->Prop:=λex ast=>∃st,Q ex st/\st.n=N/\jJ ρ0 h0 st ast
def aE(P:Program)(ro:Option Nat)(c:Code)(st:ez)(Q:Ex->ez->Prop):Prop:=∀ρ0 h0 ast,jJ ρ0 h0 st ast->lW P ro c ast (TY ρ0 h0 st.n Q)
def aN(P:Program)(ro:Option Nat)(all l:List Oper)(st:ez)(K:ez->Prop):Prop:=∀ρ0 h0 ast,jJ ρ0 h0 st ast->jH P ro all l ast (λast'=>∃st',K st'/\st'.n=st.n/\jJ ρ0 h0 st' ast')
section
variable {P:Program} {ro:Option Nat}
def aE.mono{c:Code}{st:ez}{Q Q':Ex->ez->Prop}(h:aE P ro c st Q)(hq:∀e x,Q e x->Q' e x):aE P ro c st Q':=
 λρ0 h0 ast hs=>(h ρ0 h0 ast hs).mono λ_ _ ⟨x,h1,h2⟩=>⟨x,hq _ _ h1,h2⟩
def aE.skip{st:ez}{Q:Ex->ez->Prop}(h:Q .normal st):aE P ro .skip st Q:=λ_ _ _ hs=>.skip ⟨st,h,rfl,hs⟩
def aE.exit{id:Nat}{st:ez}{Q:Ex->ez->Prop}(h:Q (.exit id) st):aE P ro (.exit id) st Q:=λ_ _ _ hs=>.exit ⟨st,h,rfl,hs⟩
def aE.ret{st:ez}{Q:Ex->ez->Prop}(h:Q .ret st):aE P ro .ret st Q:=λ_ _ _ hs=>.ret ⟨st,h,rfl,hs⟩
def cz(P:Program)(ro:Option Nat)(y:Code)(Q:Ex->ez->Prop):Ex->ez->Prop
 | .normal,st=>aE P ro y st Q
 | e,st=>Q e st
def aE.seq{x y:Code}{st:ez}{Q:Ex->ez->Prop}(h:aE P ro x st (cz P ro y Q)):aE P ro (.seq x y) st Q:=by
 intro ρ0 h0 ast hs;refine .seq ((h ρ0 h0 ast hs).mono ?_);rintro e a ⟨st',h1,h2,h3⟩
 cases e with
 | normal=>
  have:=h1 ρ0 h0 a h3;rw[h2] at this;exact this
 | _=>exact⟨st',h1,h2,h3⟩
def aE.cond{c:Operand}{x y:Code}{st:ez}{Q:Ex->ez->Prop}{b:Bool}(hc:eW st.f c=some (.a (.bool b)))(h1:b=true->aE P ro x st Q)(h2:b=false->aE P ro y st Q):aE P ro (.cond c x y) st Q:=by
 intro ρ0 h0 ast hs;obtain⟨a1,a2,θ,ρ,hR,hF⟩:=hs;rw[<-a1] at hF;obtain⟨a,ha,ka⟩:=bO hF hc;rw[VS] at ka;subst ka;refine .cond ha (λh=>h1 h ρ0 h0 ast ⟨a1,a2,θ,ρ,hR,by rw[<-a1];exact hF⟩) (λh=>h2 h ρ0 h0 ast ⟨a1,a2,θ,ρ,hR,by rw[<-a1];exact hF⟩)
variable{Q:Ex->ez->Prop}
def aE.yes{c:Operand}{x y:Code}{st:ez}(hc:eW st.f c=some (.a (.bool true)))(h1:aE P ro x st Q):aE P ro (.cond c x y) st Q:=.cond hc (λ_=>h1) gt
def aE.no{c:Operand}{x y:Code}{st:ez}(hc:eW st.f c=some (.a (.bool false)))(h1:aE P ro y st Q):aE P ro (.cond c x y) st Q:=.cond hc gt (λ_=>h1)
def ea(id:Nat)(Q:Ex->ez->Prop):Ex->ez->Prop
 | .exit i,st=>if i=id then Q .normal st else Q (.exit i) st
 | e,st=>Q e st
def aE.block{id:Nat}{x:Code}{st:ez}{Q:Ex->ez->Prop}(h:aE P ro x st (ea id Q)):aE P ro (.block id x) st Q:=by
 intro ρ0 h0 ast hs;refine .block ((h ρ0 h0 ast hs).mono ?_);rintro e a ⟨st',h1,h2,h3⟩
 cases e with
 | exit i=>
  simp only[ea] at h1;simp only[Nb];by_cases hi:i=id
  ·rw[ut hi] at h1 ⊢;exact⟨st',h1,h2,h3⟩
  ·rw[v6 hi] at h1 ⊢;exact⟨st',h1,h2,h3⟩
 | _=>exact⟨st',h1,h2,h3⟩
def Fg(st st':ez):Prop:=st'.n=st.n/\∀ρ0 h0 ast,jJ ρ0 h0 st ast->jJ ρ0 h0 st' ast
def Fg.trans{a b c:ez}(h1:Fg a b)(h2:Fg b c):Fg a c:=⟨h2.1.trans h1.1,λ_ _ _ h=>h2.2 _ _ _ (h1.2 _ _ _ h)⟩
def aE.fg{c:Code}{st st':ez}(hf:Fg st st')(h:aE P ro c st' Q):aE P ro c st Q:=by
 intro ρ0 h0 ast hs;have:=h ρ0 h0 ast (hf.2 _ _ _ hs);rw[hf.1] at this;exact this
def bI(I:Nat->ez->Prop)(m:Nat)(Q:Ex->ez->Prop):Ex->ez->Prop
 | .normal,st=>∃k st',k<m/\Fg st st'/\I k st'
 | e,st=>Q e st
def aE.loop{x:Code}{st:ez}{Q:Ex->ez->Prop}(I:Nat->ez->Prop)(m:Nat){st0:ez}(hf:Fg st st0)(h0:I m st0)(hn:∀m st',I m st'->st'.n=st.n)(h:∀m st,I m st->aE P ro x st (bI I m Q)):aE P ro (.loop x) st Q:=by
 intro ρ0 hh ast hs;refine .loop (λm a=>∃st',I m st'/\jJ ρ0 hh st' a) m ⟨st0,h0,hf.2 _ _ _ hs⟩ ?_;rintro k a ⟨st1,hI,hst⟩;refine(h k st1 hI ρ0 hh a hst).mono ?_;rintro e a' ⟨st',h1,h2,h3⟩;have hn1:=hn _ _ hI
 cases e with
 | normal=>
  obtain⟨k',st2,hk,hfg,hI2⟩:=h1;exact⟨k',hk,st2,hI2,hfg.2 _ _ _ h3⟩
 | _=>exact⟨st',h1,h2.trans hn1,h3⟩
def bx(Q:Ex->ez->Prop):Ex->ez->Prop
 | .goto _,_=>False
 | e,st=>Q e st
def aE.region{id:Nat}{ops:Array Oper}{st:ez}{Q:Ex->ez->Prop}(h:aN P ro ops.toList ops.toList st (Q .normal)):aE P ro (.region id ops false) st Q:=by
 intro ρ0 h0 ast hs;obtain⟨f,n,hh,ds⟩:=ast;refine .region ?_;have:=h ρ0 h0 _ hs;intro ops i h1 h2 F n σ a w Q' h3 h4 h5;exact this ops i h1 h2 F n σ a w Q' h3 h4 λst' a' w' σ' h6=>h5 st' a' w' σ' (by obtain⟨x,k1,k2,k3⟩:=h6;exact⟨x,k1,k2,k3⟩)
def uV(ops:List Oper)(f:Fm)(n:Nat)(o:Oper):Option Bool:=match o.guard with
 | none=>some true
 | some (j,want)=>match (ops[j]?).bind (·.dst) with
  | some d=>_root_.cond (blt d n) (match aO f d with
   | .a (.bool b)=>some (b==want)
   | .a (.cx [])=>some false
   | _=>none) none
  | none=>none
variable{f:Fm}{af:Nat->AV}{n:Nat}{wv:Nat->AV}
def dn{θ:Nat->Loc}{ρ:ko}{ops:List Oper}(hF:FR θ ρ (aO f) af n wv){o:Oper}{b:Bool}(h:uV ops f n o=some b):kV ops af n o=some b:=by
 unfold uV at h;unfold kV;split at h
 ·rename_i hg;rw[hg];exact h
 ·rename_i j want hg;rw[hg];simp only;split at h
  ·rename_i d hd;obtain⟨hlt,h2⟩:=aH h;have:=hF.v d;rw[ut (fZ hlt)] at this;rw[hd];simp only;rw[hlt,aq];split at h2
   ·rename_i hx;rw[hx,VS] at this;rw[this];exact h2
   ·rename_i hx;rw[hx,VS] at this;rw[this];exact h2
   ·cases h2
  ·cases h
def dg(all:List Oper)(n:Nat)(l:List Oper):Bool:=l.all λo=>yD o.dst n&&(match o.guard with
 | none=>true
 | some (j,_)=>match (all[j]?).bind (·.dst) with
  | some d=>blt d n
  | none=>false)
def Ld(want:Bool):SV->Option Bool
 | .a (.bool b)=>some (_root_.cond want b (!b))
 | .a (.cx [])=>some false
 | _=>none
def bT(all:List Oper)(f:Fm)(g:Option (Nat×Bool)):Option Bool:=match g with
 | none=>some true
 | some (j,want)=>(all[j]?).bind λo=>o.dst.bind λd=>Ld want (aO f d)
def fb{all:List Oper}{o:Oper}{l:List Oper}{b:Bool}(hs:dg all n (o::l)=true)(h:bT all f o.guard=some b):uV all f n o=some b:=by
 unfold dg at hs;rw[ci,ac,ac] at hs;have hs2:=hs.1.2;unfold bT at h;unfold uV
 cases hg:o.guard with
 | none=>rw[hg] at h;exact h
 | some q=>
  obtain⟨j,want⟩:=q;rw[hg] at h hs2;simp only at h hs2 ⊢;obtain⟨oj,hj,h⟩:=ul h;obtain⟨d,hd,h⟩:=ul h;rw[hj,m7,hd] at hs2 ⊢;simp only at hs2 ⊢;rw[hs2,aq];unfold Ld at h;split at h
  ·rename_i b' hb;cases want<;>cases b'<;>exact h
  ·exact h
  ·cases h
def fO{all:List Oper}{o:Oper}{l:List Oper}(hs:dg all n (o::l)=true):yD o.dst n=true/\dg all n l=true:=by
 unfold dg at hs ⊢;rw[ci,ac,ac] at hs;exact⟨hs.1.1,hs.2⟩
def pg(P:Program)(all:List Oper):List Oper->Fm->List SO->List Oper×Fm×List SO
 | [],f,S=>([],f,S)
 | o::l,f,S=>match bT all f o.guard with
  | some true=>match dk P f S o.op with
   | some q=>pg P all l (pN f q.2.2 o.dst q.1) q.2.1
   | none=>(o::l,f,S)
  | some false=>match o.dst with
   | some d=>pg P all l ((d,.a lV)::f) S
   | none=>(o::l,f,S)
  | none=>(o::l,f,S)
def aN.nil{all:List Oper}{st:ez}{K:ez->Prop}(h:K st):aN P ro all [] st K:=λ_ _ _ hs=>.nil ⟨st,h,rfl,hs⟩
variable{S:List SO}
def CA{op:Op}{q:SV×List SO×Option Nat}(h:dk P f S op=some q):tV op=true:=by
 cases op<;>first | rfl | (simp[dk] at h;done)
def aN.run{all:List Oper}{ds:List jG}{n:Nat}{K:ez->Prop}:∀{l l':List Oper} {f f':Fm} {S S':List SO},dg all n l=true->pg P all l f S=(l',f',S')->aN P ro all l' ⟨f',n,S',ds⟩ K->aN P ro all l ⟨f,n,S,ds⟩ K
 | [],l',f,f',S,S',_,h,hk=>by
  simp only[pg,m8] at h;obtain⟨rfl,rfl,rfl⟩:=h;exact hk
 | o::l,l',f,f',S,S',hst,h,hk=>by
  have stop:(o::l,f,S)=(l',f',S')->aN P ro all (o::l) ⟨f,n,S,ds⟩ K:=by
   intro e;simp only[m8] at e;obtain⟨rfl,rfl,rfl⟩:=e;exact hk
  obtain⟨hd,hst2⟩:=fO hst;unfold pg at h;split at h
  ·rename_i hw;have hw:=fb hst hw;split at h
   ·rename_i q hop;obtain⟨v,S1,kill⟩:=q;rintro ρ0 h0 ⟨af,n',hh,ds'⟩ ⟨rfl,rfl,θ,ρ,hR,hF⟩;obtain⟨rv,h',θ',e1,e2,e3,e4⟩:=Pv hR hF hop;refine .cons (dn hF hw) (.run (CA hop) hd e1 ?_);intro x hx;rw[t6 hx];refine aN.run hst2 h hk ρ0 h0 _ ⟨rfl,rfl,θ',ρ,e2,?_⟩
    cases hdd:o.dst with
    | none=>exact hF.lL e4
    | some d=>rw[hdd] at hd;cases rv<;>exact hF.kill e4 (fZ hd) e3
   ·exact stop h
  ·rename_i hw;have hw:=fb hst hw;split at h
   ·rename_i d hdst;rw[hdst] at hd;rintro ρ0 h0 ⟨af,n',hh,ds'⟩ ⟨rfl,rfl,θ,ρ,hR,hF⟩;refine .s hdst (dn hF hw) hd ?_;exact aN.run hst2 h hk ρ0 h0 _ ⟨rfl,rfl,θ,ρ,hR,hF.put (fZ hd) (by rw[VS])⟩
   ·exact stop h
  ·exact stop h
end
mutual
inductive Wk (S:List SO):SV->SV->Prop
 | any (v:SV):Wk S v .any
 | a (v:AV):Wk S (.a v) (.a v)
 | sl (n e:Nat) (cs:List SV):Wk S (.sl n e cs) (.sl n e cs)
 | im (ks:List AV) (vs:List SV):Wk S (.im ks vs) (.im ks vs)
 | ip (cs:List SV):Wk S (.ip cs) (.ip cs)
 | nil (e:Nat):Wk S (.a (.slice none 0 0 (some 0))) (.sl 0 e [])
 | ptr {o off:Nat} {cs ds:List SV}:S[o]?=some (.cells cs)->cA S (cs.drop off) ds->off<=cs.length->Wk S (.ptr o off) (.ip ds)
 | buf {o n e:Nat} {c:Option Nat} {cs ds:List SV}:S[o]?=some (.cells cs)->cA S (cs.take (n*e)) ds->n*e<=cs.length->Wk S (.buf o n e c) (.sl n e ds)
 | sub {o off n e:Nat} {c:Option Nat} {cs ds:List SV}:S[o]?=some (.cells cs)->cA S ((cs.drop off).take (n*e)) ds->off+n*e<=cs.length->Wk S (.sub o off n e c) (.sl n e ds)
 | e0 (e:Nat):Wk S (.e0 e) (.e0 e)
 | T5 (e:Nat):Wk S (.e0 e) (.sl 0 e [])
 | map {o:Nat} {ks:List AV} {vs ws:List SV} {b:Option (List Nat×Nat)}:S[o]?=some (.map ks vs b)->cA S vs ws->Wk S (.map o) (.im ks ws)
 | ag {cs ds:List SV}:cA S cs ds->Wk S (.ag cs) (.ag ds)
 | cx {cs ds:List SV}:cA S cs ds->Wk S (.cx cs) (.cx ds)
 | fn {g:FuncId} {a b c d:List SV}:cA S a c->cA S b d->Wk S (.fn g a b) (.fn g c d)
 | iface {t:TypeId} {v w:SV}:Wk S v w->Wk S (.iface t v) (.iface t w)
inductive cA (S:List SO):List SV->List SV->Prop
 | nil:cA S [] []
 | cons {v w:SV} {vs ws:List SV}:Wk S v w->cA S vs ws->cA S (v::vs) (w::ws)
end
def pe(θ:Nat->Loc)(ρ:ko)(h:H)(S:List SO):ko:=λid=>match ρ id with
 | some ob=>some ob
 | none=>@ite _ (∃o so,S[o]?=some so/\so≠.gone/\(θ o).id=id) (Classical.propDecidable _) (h.aW.get id) none
section
variable {θ:Nat->Loc} {ρ ρ0:ko} {P:Program} {h0:En} {h:H} {S:List SO}
variable{id:Nat}
def qX{ob:AO}(hi:ρ id=some ob):pe θ ρ h S id=some ob:=by unfold pe;rw[hi]
variable{o:Nat}{so:SO}
def uh(hR:RS θ ρ0 ρ h0 h S)(hS:S[o]?=some so)(hg:so≠.gone):pe θ ρ h S (θ o).id=h.aW.get (θ o).id:=by
 unfold pe
 cases hr:ρ (θ o).id with
 | some ob=>rw[(hR.row _ _ hr).2.1]
 | none=>simp only;rw[ut ⟨o,so,hS,hg,rfl⟩]
mutual
def Wk.ok(hR:RS θ ρ0 ρ h0 h S):∀{v w:SV} {x:AV},Wk S v w->VS θ ρ v x->GS (pe θ ρ h S) w x
 | _,_,_,.any v,_=>by rw[GS];trivial
 | _,_,_,.a v,hv=>by rw[VS] at hv;rw[GS];exact hv
 | _,_,_,.sl n e cs,hv=>by rw[VS] at hv;exact hv.mono λ_ _ h=>qX h
 | _,_,_,.im ks vs,hv=>by rw[VS] at hv;exact hv.mono λ_ _ h=>qX h
 | _,_,_,.ip cs,hv=>by rw[VS] at hv;exact hv.mono λ_ _ h=>qX h
 | _,_,_,.nil e,hv=>by
  rw[VS] at hv;subst hv;rw[GS];exact .inl ⟨rfl,rfl,none,0,some 0,rfl,λ_=>rfl,λh=>un rfl h⟩
 | _,_,_,@Wk.ptr _ o off cs ds hS hw hle,hv=>by
  rw[VS] at hv;subst hv;obtain⟨_,aS,q1,q2,_⟩:=hR.obj o _ hS gt;rw[GS];refine⟨_,off,aS,aS.length-off,rfl,?_,?_,?_⟩
  ·unfold vN;rw[uh hR hS gt,q1]
  ·rw[q2.length];omega
  ·have:=cA.ok hR hw (q2.drop off);rw[ce (by rw[bh];exact bw _)];exact this
 | _,_,_,@Wk.buf _ o n e c cs ds hS hw hle,hv=>by
  rw[VS] at hv;subst hv;obtain⟨_,aS,q1,q2,_⟩:=hR.obj o _ hS gt;rw[GS];refine .inr ⟨_,0,c,aS,rfl,?_,by rw[q2.length];omega,?_⟩
  ·unfold vN;rw[uh hR hS gt,q1]
  ·rw[b6];exact cA.ok hR hw (q2.take _)
 | _,_,_,@Wk.sub _ o off n e c cs ds hS hw hle,hv=>by
  rw[VS] at hv;subst hv;obtain⟨_,aS,q1,q2,_⟩:=hR.obj o _ hS gt;rw[GS];refine .inr ⟨_,off,c,aS,rfl,?_,by rw[q2.length];omega,?_⟩
  ·unfold vN;rw[uh hR hS gt,q1]
  ·exact cA.ok hR hw ((q2.drop off).take _)
 | _,_,_,.e0 e,hv=>by rw[VS] at hv;rw[GS];exact hv
 | _,_,_,.T5 e,hv=>by
  rw[VS] at hv;obtain⟨o,e',rfl,ho⟩:=hv;rw[GS];exact .inl ⟨rfl,rfl,o,e',some 0,rfl,λ_=>rfl,ho⟩
 | _,_,_,@Wk.map _ o ks vs ws b hS hw,hv=>by
  rw[VS] at hv;subst hv;obtain⟨_,l,c,q1,q2,q3⟩:=hR.obj o _ hS gt;rw[GS];exact⟨_,l,c,rfl,by rw[uh hR hS gt,q1],⟨q2.1,q2.2.1,λp hp=>by cases hp⟩,cA.ok hR hw q3⟩
 | _,_,_,.ag hw,hv=>by rw[VS] at hv;obtain⟨aS,h1,h2⟩:=hv;rw[GS];exact⟨aS,h1,cA.ok hR hw h2⟩
 | _,_,_,.cx hw,hv=>by rw[VS] at hv;obtain⟨aS,h1,h2⟩:=hv;rw[GS];exact⟨aS,h1,cA.ok hR hw h2⟩
 | _,_,_,.fn hw1 hw2,hv=>by rw[VS] at hv;obtain⟨xs,ys,h1,h2,h3⟩:=hv;rw[GS];exact⟨xs,ys,h1,cA.ok hR hw1 h2,cA.ok hR hw2 h3⟩
 | _,_,_,.iface hw,hv=>by rw[VS] at hv;obtain⟨y,h1,h2⟩:=hv;rw[GS];exact⟨y,h1,Wk.ok hR hw h2⟩
def cA.ok(hR:RS θ ρ0 ρ h0 h S):∀{vs ws:List SV} {xs:List AV},cA S vs ws->cZ θ ρ vs xs->j9 (pe θ ρ h S) ws xs
 | _,_,_,.nil,hv=>by rw[aZ] at hv;rw[eY];exact hv
 | _,_,_,.cons h1 h2,hv=>by
  rw[aK] at hv;obtain⟨a,r,rfl,k1,k2⟩:=hv;rw[dT];exact⟨a,r,rfl,Wk.ok hR h1 k1,cA.ok hR h2 k2⟩
end
def RS.DK(hR:RS θ ρ0 ρ h0 h S):RS θ ρ0 ρ h0 h []:=⟨hR.ok,hR.nx,hR.ob,hR.fm,hR.lw,hR.ln,λo so h=>by simp at h,λo o' so so' _ h=>by simp at h,λid ob hi=>⟨(hR.row id ob hi).1,(hR.row id ob hi).2.1,λo so h=>by simp at h⟩,hR.mE⟩
def Ae:pe θ ρ h []=ρ:=by
 funext id;unfold pe
 cases hr:ρ id with
 | some ob=>rfl
 | none=>simp only;rw[v6];rintro⟨o,so,h,_⟩;simp at h
def Nd(ρ:ko)(h:H):Prop:=∀id ob,ρ id=some ob->id<h.next/\h.aW.get id=some ob
def TV(h:H)(ρ ρ':ko)(h':H):Prop:=∀id ob,ρ' id=some ob->ρ id=some ob\/(h.next<=id/\id<h'.next/\h'.aW.get id=some ob)
def pZ(hR:RS θ ρ0 ρ h0 h S):Nd (pe θ ρ h S) h:=by
 intro id ob hi;unfold pe at hi
 cases hr:ρ id with
 | some ob'=>rw[hr] at hi;cases hi;exact⟨(hR.row id _ hr).1,(hR.row id _ hr).2.1⟩
 | none=>
  rw[hr] at hi;simp only at hi;split at hi
  ·rename_i hex;obtain⟨o,so,h1,h2,rfl⟩:=hex;obtain⟨⟨k1,k2,k3,_⟩,_⟩:=hR.obj o so h1 h2;exact⟨by rcases k1 with e | e<;>omega,hi⟩
  ·cases hi
def PC(P:Program)(g:FuncId)(args:List SV)(Q:SV->Prop):Prop:=∀ρ h avs,Nd ρ h->j9 ρ args avs->
 ee P (.func g) avs h (λv h'=>∃r ρ',Q r/\Over h.next h h'/\TV h ρ ρ' h'/\GS ρ' r v)
mutual
def wa:SV->Bool
 | .any=>true
 | .a _=>true
 | .ag cs=>Iq cs
 | .cx cs=>Iq cs
 | _=>false
def Iq:List SV->Bool
 | []=>true
 | d::ds=>wa d&&Iq ds
end
mutual
def GS.flat{ρ':ko}:∀{r:SV} {x:AV},wa r=true->GS ρ' r x->VS θ ρ r x
 | .any,_,_,_=>by rw[VS];trivial
 | .a v,x,_,hg=>by rw[GS] at hg;rw[VS];exact hg
 | .ag cs,x,hf,hg=>by rw[wa] at hf;rw[GS] at hg;obtain⟨aS,h1,h2⟩:=hg;rw[VS];exact⟨aS,h1,j9.flat hf h2⟩
 | .cx cs,x,hf,hg=>by rw[wa] at hf;rw[GS] at hg;obtain⟨aS,h1,h2⟩:=hg;rw[VS];exact⟨aS,h1,j9.flat hf h2⟩
 | .sl _ _ _,_,hf,_=>by simp[wa] at hf
 | .im _ _,_,hf,_=>by simp[wa] at hf
 | .ip _,_,hf,_=>by simp[wa] at hf
 | .ptr _ _,_,hf,_=>by simp[wa] at hf
 | .map _,_,hf,_=>by simp[wa] at hf
 | .buf _ _ _ _,_,hf,_=>by simp[wa] at hf
 | .sub _ _ _ _ _,_,hf,_=>by simp[wa] at hf
 | .e0 _,_,hf,_=>by simp[wa] at hf
 | .fn _ _ _,_,hf,_=>by simp[wa] at hf
 | .iface _ _,_,hf,_=>by simp[wa] at hf
def j9.flat{ρ':ko}:∀{rs:List SV} {xs:List AV},Iq rs=true->j9 ρ' rs xs->cZ θ ρ rs xs
 | [],xs,_,hg=>by rw[eY] at hg;rw[aZ];exact hg
 | d::ds,xs,hf,hg=>by
  rw[Iq,ac] at hf;rw[dT] at hg;obtain⟨a,r,rfl,h1,h2⟩:=hg;rw[aK];exact⟨a,r,rfl,GS.flat hf.1 h1,j9.flat hf.2 h2⟩
end
def iN(P:Program)(f:Fm)(c:Call):Option (FuncId×List SV):=match c.callee with
 | .value x=>match eW f x with
  | some (.fn g first cap)=>(qe f c.args.toList).map λxs=>(g,(first++xs)++cap)
  | _=>none
 | .invoke r name=>match eW f r with
  | some (.iface t v)=>(jn P t name).bind λg=>(qe f c.args.toList).map λxs=>(g,v::xs)
  | _=>none
 | .builtin _=>none
variable{f:Fm}{af:Nat->AV}{n:Nat}{wv:Nat->AV}{vs:List SV}
def yr(hF:FR θ ρ (aO f) af n wv){c:Call}{g:FuncId}(hc:iN P f c=some (g,vs)):∃xs cap,pH P (eo af n) c=some (.func g,xs,cap)/\cZ θ ρ vs (xs++cap):=by
 unfold iN at hc;unfold pH;split at hc
 ·rename_i x hx;rw[hx];simp only;split at hc
  ·rename_i g' first cap hv
   obtain⟨xs,hxs,e⟩:=az hc;cases e;obtain⟨a,ha,ka⟩:=bO hF hv;rw[VS] at ka;obtain⟨fs,cs,rfl,k1,k2⟩:=ka;obtain⟨aS,hs,ks⟩:=mq hF hxs;rw[ha];simp only;rw[hs];exact⟨fs++aS,cs,rfl,(k1.app ks).app k2⟩
  ·cases hc
 ·rename_i r name hx;rw[hx];simp only;split at hc
  ·rename_i t v hv;obtain⟨g',hg,hc⟩:=ul hc;obtain⟨xs,hxs,e⟩:=az hc;cases e;obtain⟨a,ha,ka⟩:=bO hF hv;rw[VS] at ka;obtain⟨y,rfl,k1⟩:=ka;obtain⟨aS,hs,ks⟩:=mq hF hxs;rw[ha];simp only;rw[hg,m7,hs];refine⟨y::aS,[],rfl,?_⟩;rw[List.append_nil,aK];exact⟨y,aS,rfl,k1,ks⟩
  ·cases hc
 ·cases hc
def ny.mono{ρ':ko}{h':H}{L:Loc}{so:SO}(hx:ny θ ρ h L so)(hm:∀id ob,ρ id=some ob->ρ' id=some ob)(ho:h'.aW.get L.id=h.aW.get L.id)(hf:h'.dC.get L.bX=h.dC.get L.bX):ny θ ρ' h' L so:=by
 cases so with
 | cells cs=>obtain⟨aS,h1,h2,h3⟩:=hx;exact⟨aS,by rw[ho];exact h1,h2.mono hm,by rw[hf];exact h3⟩
 | map ks vs b=>obtain⟨l,c,h1,h2,h3⟩:=hx;exact⟨l,c,by rw[ho];exact h1,h2,h3.mono hm⟩
 | iter m bs c pos=>obtain⟨j7,h1,h2⟩:=hx;exact⟨j7,h1.mono hm,by rw[ho];exact h2⟩
 | oR ks vs bs c pos=>obtain⟨j7,l,h1,h2,h3,h4⟩:=hx;exact⟨j7,l,hm _ _ h1,h2,h3.mono hm,by rw[ho];exact h4⟩
 | gone=>trivial
 | loop c ls p f=>
  obtain⟨h1,h2,h3⟩:=hx;exact⟨h1,by rw[ho];exact h2,λi hi=>(h3 i hi).mono hm⟩
 | mA N=>exact⟨hx.1,by rw[ho];exact hx.2⟩
def GO(h:H)(ρ ρ':ko):ko:=λid=>if id<h.next then ρ id else ρ' id
def RS.call{ρ':ko}{h':H}(hR:RS θ ρ0 ρ h0 h S)(ho:Over h.next h h')(hn:TV h ρ ρ' h'):RS θ ρ0 (GO h ρ ρ') h0 h' S/\(∀id ob,ρ id=some ob->GO h ρ ρ' id=some ob)/\∀id ob,ρ' id=some ob->GO h ρ ρ' id=some ob:=by
 have hold:∀id ob,ρ id=some ob->GO h ρ ρ' id=some ob:=by
  intro id ob hi;unfold GO;rw[ut (hR.row id ob hi).1];exact hi
 have hlw:h'.low=h.low:=ho.low hR.ln;have hpr:∀j,h0.pr j->j<h.next:=λj hj=>aj (hR.ok.pr j hj) hR.nx;have hpf:∀j,h0.pf j->j<h.next:=λj hj=>aj (hR.ok.pf j hj) hR.nx;refine⟨⟨hR.ok,bb hR.nx ho.next,λj hj=>(ho.aW j (hpr j hj)).trans (hR.ob j hj),λj hj=>(ho.dC j (hpf j hj)).trans (hR.fm j hj),by rw[hlw];exact hR.lw,by rw[hlw];exact bb hR.ln ho.next,?_,hR.sep,?_,?_⟩,hold,?_⟩
 ·intro o so h1 h2;obtain⟨k,k2⟩:=hR.obj o so h1 h2;refine⟨k.mono ho.next,?_⟩
  have hid:(θ o).id<h.next:=by rcases k.e with e | e<;>rw[e];exact k.x.2;exact k.y.2
  exact k2.mono hold (ho.aW _ hid) (ho.dC _ k.f.2)
 ·intro id ob hi;unfold GO at hi;split at hi
  ·rename_i hlt;obtain⟨r1,r2,r3⟩:=hR.row id ob hi;exact⟨aj r1 ho.next,by rw[ho.aW id r1];exact r2,r3⟩
  ·rename_i hlt
   rcases hn id ob hi with e | ⟨e1,e2,e3⟩
   ·exact un (hR.row id ob e).1 hlt
   ·refine⟨e2,e3,λo so h1 h2=>?_⟩;obtain⟨k,_⟩:=hR.obj o so h1 h2;have:=k.x.2;have:=k.y.2;omega
 ·intro id ob hi;unfold GO at hi;split at hi
  ·exact hR.mE id ob hi
  ·exact .inr (λhj=>by have:=hpr id hj;omega)
 ·intro id ob hi;unfold GO;split
  ·rename_i hlt
   rcases hn id ob hi with e | ⟨e1,_⟩
   ·exact e
   ·omega
  ·exact hi
def FR.mono{ρ':ko}{f:Nat->SV}{af:Nat->AV}{n:Nat}{wv:Nat->AV}(hF:FR θ ρ f af n wv)(hm:∀id ob,ρ id=some ob->ρ' id=some ob):FR θ ρ' f af n wv:=⟨λi=>(hF.v i).mono hm,hF.u⟩
def aN.call{ro:Option Nat}{all:List Oper}{o:Oper}{l:List Oper}{f:Fm}{n:Nat}{ds:List jG}{K:ez->Prop}{d:Nat}{c:Call}{g:FuncId}{vs ws:List SV}{Q:SV->Prop}(hop:o.op=.call c)(hdst:o.dst=some d)(hw:uV all f n o=some true)(hdy:fR (.call c)=true)(hd:blt d n=true)
 (hc:iN P f c=some (g,vs)) (hq:PC P g ws Q) (hwk:cA S vs ws) (hfl:(∀r,Q r->wa r=true)\/cA [] vs ws) (hk:∀r,Q r->aN P ro all l ⟨(d,r)::f,n,S,ds⟩ K):aN P ro all (o::l) ⟨f,n,S,ds⟩ K:=by
 rintro ρ0 h0 ⟨af,n',h,ds'⟩ ⟨rfl,rfl,θ,ρ,hR,hF⟩;obtain⟨xs,cap,h1,h2⟩:=yr hF hc
 rcases hfl with hfl | hfl
 ·refine .c hop hdst (dn hF hw) hdy hd h1 rfl (hq _ _ _ (pZ hR) (hwk.ok hR h2)) ?_;rintro v h' ⟨r,ρ',k1,k2,k3,k4⟩;obtain⟨j1,j2,_⟩:=hR.call (ρ':=λ_=>none) k2 (λid ob hi=>by cases hi);exact hk r k1 ρ0 h0 _ ⟨rfl,rfl,θ,_,j1,(hF.mono j2).put (fZ hd) (k4.flat (hfl r k1))⟩
 ·have:=hfl.ok hR.DK h2;rw[Ae] at this;refine .c hop hdst (dn hF hw) hdy hd h1 rfl (hq _ _ _ (λid ob hi=>⟨(hR.row id ob hi).1,(hR.row id ob hi).2.1⟩) this) ?_;rintro v h' ⟨r,ρ',k1,k2,k3,k4⟩;obtain⟨j1,j2,j3⟩:=hR.call k2 k3;exact hk r k1 ρ0 h0 _ ⟨rfl,rfl,θ,_,j1,(hF.mono j2).put (fZ hd) ((k4.mono j3).vs)⟩
end
def kX:Nat->List SV->Fm
 | _,[]=>[]
 | i,v::vs=>(i,v)::kX (i+1) vs
def tg:∀(vs:List SV) (i j:Nat),aO (kX i vs) j=if i<=j then (match vs[j-i]? with | some v=>v | none=>.any) else .any
 | [],i,j=>by simp[kX,aO]
 | v::vs,i,j=>by
  show(if i=j then v else aO (kX (i+1) vs) j)=_;rw[tg vs (i+1) j];by_cases h:i=j
  ·subst h;simp
  ·rw[v6 h];by_cases h2:i<=j
   ·rw[ut i4,ut h2];obtain⟨k,hk⟩:∃k,j-i=k+1:=⟨j-i-1,by omega⟩;rw[hk,ap,show j-(i+1)=k by omega]
   ·rw[v6 i4,v6 h2]
def pd(P:Program)(f:Fm)(S:List SO):List ResultVar->Option (List SV)
 | []=>some []
 | .tmp i::l=>(eW f (.tmp i)).bind λv=>(pd P f S l).map λb=>v::b
 | .cell a t::l=>(eW f (.tmp a)).bind λx=>(zk P S t x).bind λv=>(pd P f S l).map λb=>v::b
def eC:List SV->SV
 | [v]=>v
 | vs=>.cx vs
def BJ(P:Program)(fn:Func)(Q:SV->Prop):Ex->ez->Prop:=λe st=>kE e=true/\st.ds=[]/\∃vs r,pd P st.f st.S fn.results.toList=some vs/\Wk st.S (eC vs) r/\Q r
section
variable {P:Program}
def ue{θ:Nat->Loc}{ρ ρ0:ko}{h0:En}{h:H}{S:List SO}(hR:RS θ ρ0 ρ h0 h S){f:Fm}{af:Nat->AV}{n:Nat}{wv:Nat->AV}(hF:FR θ ρ (aO f) af n wv):∀{l:List ResultVar} {vs:List SV},pd P f S l=some vs->∃aS,(l.mapM λ
 | ResultVar.tmp i=>ev (eo af n) (.tmp i)
 | ResultVar.cell a tt=>match ev (eo af n) (.tmp a) with
  | some (.ptr (some (id,off)))=>h.load P tt id off
  | _=>none)=some aS/\cZ θ ρ vs aS
 | [],vs,hv=>by
  simp only[pd,qr] at hv;subst hv;exact⟨[],rfl,by rw[aZ]⟩
 | .tmp i::l,vs,hv=>by
  rw[pd] at hv;obtain⟨v0,hv0,hv⟩:=ul hv;obtain⟨b,hb,rfl⟩:=az hv;obtain⟨aS,h1,h2⟩:=ue hR hF hb;obtain⟨a,ha,ka⟩:=bO hF (x:=.tmp i) hv0;refine⟨a::aS,?_,by rw[aK];exact⟨a,aS,rfl,ka,h2⟩⟩;rw[dd];simp only[ha,h1];rfl
 | .cell a t::l,vs,hv=>by
  rw[pd] at hv;obtain⟨v0,hv0,hv⟩:=ul hv;obtain⟨v,hv1,hv⟩:=ul hv;obtain⟨b,hb,rfl⟩:=az hv;obtain⟨aS,h1,h2⟩:=ue hR hF hb;obtain⟨p,hp,kp⟩:=bO hF (x:=.tmp a) hv0;obtain⟨y,hy,ky⟩:=Ga hR kp hv1;refine⟨y::aS,?_,by rw[aK];exact⟨y,aS,rfl,ky,h2⟩⟩;rw[dd];simp only[hp,h1];unfold DD at hy;split at hy
  ·rename_i he;cases he;simp only[hy];rfl
  ·cases hy
def PU:List AV->AV
 | [v]=>v
 | vs=>.cx vs
variable{vs:List SV}{aS:List AV}
def KP{θ:Nat->Loc}{ρ:ko}(h:cZ θ ρ vs aS):VS θ ρ (eC vs) (PU aS):=by
 match vs,h with
 | [],h=>rw[aZ] at h;subst h;simp only[eC];rw[VS];exact⟨[],rfl,by rw[aZ]⟩
 | [v],h=>
  rw[aK] at h;obtain⟨a,r,rfl,h1,h2⟩:=h;rw[aZ] at h2;subst h2;exact h1
 | v::w::vs,h=>
  have h':=h;rw[aK] at h;obtain⟨a,r,rfl,h1,h2⟩:=h;rw[aK] at h2;obtain⟨b,r2,rfl,h3,h4⟩:=h2;simp only[eC];rw[VS];exact⟨_,rfl,h'⟩
end
section
variable {θ:Nat->Loc} {ρ ρ0:ko} {P:Program} {h0:En} {h:H} {S S':List SO}
def uX(f:Fm):Fm->Prop
 | []=>True
 | (i,v)::l=>aO f i=v/\uX f l
def CX(S:List SO):List SO->Nat->Prop
 | [],_=>True
 | s::l,k=>(s=.gone\/S[k]?=some s)/\CX S l (k+1)
def CX.get:∀{l:List SO} {k:Nat},CX S l k->∀{o:Nat} {so:SO},l[o]?=some so->so≠.gone->S[k+o]?=some so
 | [],_,_,o,so,h,_=>by simp at h
 | s::l,k,hs,o,so,h,hg=>by
  obtain⟨h1,h2⟩:=hs
  cases o with
  | zero=>
   simp only[ax,qr] at h;subst h;exact h1.resolve_left hg
  | succ o=>
   simp only[ap] at h;have:=CX.get h2 h hg;rw[show k+(o+1)=k+1+o by omega];exact this
def RS.sub(hR:RS θ ρ0 ρ h0 h S)(hs:∀(o:Nat) (so:SO),S'[o]?=some so->so≠.gone->S[o]?=some so):RS θ ρ0 ρ h0 h S':=
 ⟨hR.ok,hR.nx,hR.ob,hR.fm,hR.lw,hR.ln,λo so h1 h2=>hR.obj o so (hs o so h1 h2) h2,λo o' so so' h h1 h2 h3 h4=>hR.sep o o' so so' h (hs o so h1 h2) h2 (hs o' so' h3 h4) h4,
  λid ob hi=>⟨(hR.row id ob hi).1,(hR.row id ob hi).2.1,λo so h1 h2=>(hR.row id ob hi).2.2 o so (hs o so h1 h2) h2⟩,hR.mE⟩
def uX.get{f:Fm}:∀{f':Fm},uX f f'->∀i,aO f' i=aO f i\/aO f' i=.any
 | [],_,i=>.inr rfl
 | (d,v)::l,h,i=>by
  obtain⟨h1,h2⟩:=h;show(if d=i then v else aO l i)=_\/(if d=i then v else aO l i)=_;by_cases e:d=i
  ·subst e;rw[ut rfl];exact .inl h1.symm
  ·rw[v6 e];exact uX.get h2 i
variable{f:Fm}{n:Nat}{ds:List jG}
def Fg.less{f':Fm}(hf:uX f f')(hs:CX S S' 0):Fg ⟨f,n,S,ds⟩ ⟨f',n,S',ds⟩:=by
 refine⟨rfl,?_⟩;rintro ρ0 h0 ⟨af,n',h,ds'⟩ ⟨rfl,rfl,θ,ρ,hR,hF⟩;refine⟨rfl,rfl,θ,ρ,hR.sub λo so h1 h2=>by have:=hs.get h1 h2;rw[bc] at this;exact this,λi=>?_,hF.u⟩
 rcases hf.get i with e | e
 ·rw[e];exact hF.v i
 ·rw[e,VS];trivial
def jB(o:Nat)(so:SO):List SO:=dv o .gone++[so]
variable{o:Nat}{so:SO}
def rT{p:Nat}{s:SO}(h:(jB o so)[p]?=some s)(hg:s≠.gone):p=o/\s=so:=by
 unfold jB at h;rw[cl] at h;split at h
 ·rename_i hl;rw[a8] at hl;rw[List.getElem?_replicate,ut hl] at h;cases h;exact un rfl hg
 ·rename_i hl;rw[a8] at hl h
  have:p-o=0:=by
   apply Decidable.byContradiction;intro hn;rw[a7 (by simp;omega)] at h;cases h
  rw[this] at h;simp only[ax,qr] at h;exact⟨by omega,h.symm⟩
def PA(o:Nat)(so:SO):(jB o so)[o]?=some so:=by
 unfold jB;rw[ba (by rw[a8];exact bw _),a8,d2];rfl
def ye(S:List SO)(f:Fm):Fm->Prop
 | []=>True
 | (i,v)::l=>(aO f i=v\/Wk S (aO f i) v)/\ye S f l
def ye.get{f:Fm}:∀{f':Fm},ye S f f'->∀i,aO f' i=aO f i\/Wk S (aO f i) (aO f' i)
 | [],_,i=>.inr (.any _)
 | (d,v)::l,h,i=>by
  obtain⟨h1,h2⟩:=h;show(if d=i then v else aO l i)=_\/Wk S _ (if d=i then v else aO l i);by_cases e:d=i
  ·subst e;rw[ut rfl]
   rcases h1 with h1 | h1
   ·exact .inl h1.symm
   ·exact .inr h1
  ·rw[v6 e];exact ye.get h2 i
def Fg.Km{f':Fm}(o:Nat)(hS:S[o]?=some so)(hg:so≠.gone)(hf:∀i,aO f' i=aO f i\/Wk (jB o so) (aO f i) (aO f' i)):Fg ⟨f,n,S,ds⟩ ⟨f',n,S.set o .gone,ds⟩:=by
 refine⟨rfl,?_⟩;rintro ρ0 h0 ⟨af,n',h,ds'⟩ ⟨rfl,rfl,θ,ρ,hR,hF⟩
 have hsub:∀(p:Nat) (s:SO),(jB o so)[p]?=some s->s≠.gone->S[p]?=some s:=by
  intro p s h1 h2;obtain⟨rfl,rfl⟩:=rT h1 h2;exact hS
 have hR1:=hR.sub hsub
 have hset:∀(p:Nat) (s:SO),(S.set o .gone)[p]?=some s->s≠.gone->S[p]?=some s/\p≠o:=by
  intro p s h1 h2;by_cases hp:p=o
  ·subst hp;rw[ay (bo hS)] at h1;cases h1;exact un rfl h2
  ·rw[a3 (λe=>hp e.symm)] at h1;exact⟨h1,hp⟩
 have hR2:=hR.sub (S':=S.set o .gone) λp s h1 h2=>(hset p s h1 h2).1;have hm:∀id ob,ρ id=some ob->pe θ ρ h (jB o so) id=some ob:=λid ob hi=>qX hi
 have key:∀id ob,pe θ ρ h (jB o so) id=some ob->ρ id=some ob\/id=(θ o).id:=by
  intro id ob hi;unfold pe at hi
  cases hr:ρ id with
  | some ob'=>rw[hr] at hi;exact .inl hi
  | none=>
   rw[hr] at hi;simp only at hi;split at hi
   ·rename_i hex;obtain⟨p,s,q1,q2,rfl⟩:=hex;obtain⟨rfl,_⟩:=rT q1 q2;exact .inr rfl
   ·cases hi
 refine⟨rfl,rfl,θ,pe θ ρ h (jB o so),⟨hR2.ok,hR2.nx,hR2.ob,hR2.fm,hR2.lw,hR2.ln,?_,hR2.sep,?_,?_⟩,λi=>?_,hF.u⟩
 ·intro p s h1 h2;obtain⟨k,k2⟩:=hR2.obj p s h1 h2;exact⟨k,k2.mono hm rfl rfl⟩
 ·intro id ob hi;obtain⟨r1,r2⟩:=pZ hR1 id ob hi;refine⟨r1,r2,λp s h1 h2=>?_⟩
  rcases key id ob hi with e | e
  ·exact(hR2.row id ob e).2.2 p s h1 h2
  ·subst e;obtain⟨g1,g2⟩:=hset p s h1 h2;have sp:=hR.sep p o s so g2 g1 h2 hS hg;obtain⟨k,_⟩:=hR.obj o so hS hg
   rcases k.e with e | e<;>rw[e]
   ·exact⟨sp.xx.symm,sp.yx.symm⟩
   ·exact⟨sp.xy.symm,sp.yy.symm⟩
 ·intro id ob hi
  rcases key id ob hi with e | e
  ·exact hR.mE id ob e
  ·subst e;obtain⟨k,_⟩:=hR.obj o so hS hg;exact .inr (by rcases k.e with e | e<;>rw[e];exact k.x.1;exact k.y.1)
 ·rcases hf i with e | e
  ·rw[e];exact(hF.v i).mono hm
  ·exact(e.ok hR1 (hF.v i)).vs
def Fg.freeze{f':Fm}(o:Nat)(hS:S[o]?=some so)(hg:so≠.gone)(hf:ye (jB o so) f f'):Fg ⟨f,n,S,ds⟩ ⟨f',n,S.set o .gone,ds⟩:=.Km o hS hg hf.get
mutual
def mC:SV->Bool
 | .a _=>true
 | .sl _ _ _=>true
 | .im _ _=>true
 | .ip _=>true
 | .any=>true
 | .e0 _=>true
 | .ag cs=>cj cs
 | .cx cs=>cj cs
 | .fn _ a b=>cj a&&cj b
 | .iface _ v=>mC v
 | _=>false
def cj:List SV->Bool
 | []=>true
 | d::ds=>mC d&&cj ds
end
mutual
def Wk.refl:∀{v:SV},mC v=true->Wk S v v
 | .a v,_=>.a v
 | .sl n e cs,_=>.sl n e cs
 | .im ks vs,_=>.im ks vs
 | .ip cs,_=>.ip cs
 | .any,_=>.any _
 | .e0 e,_=>.e0 e
 | .sub _ _ _ _ _,h=>by simp[mC] at h
 | .ag cs,h=>.ag (cA.refl (by rw[mC] at h;exact h))
 | .cx cs,h=>.cx (cA.refl (by rw[mC] at h;exact h))
 | .fn g a b,h=>by rw[mC,ac] at h;exact .fn (cA.refl h.1) (cA.refl h.2)
 | .iface t v,h=>.iface (Wk.refl (by rw[mC] at h;exact h))
 | .ptr _ _,h=>by simp[mC] at h
 | .map _,h=>by simp[mC] at h
 | .buf _ _ _ _,h=>by simp[mC] at h
def cA.refl:∀{vs:List SV},cj vs=true->cA S vs vs
 | [],_=>.nil
 | d::ds,h=>by rw[cj,ac] at h;exact .cons (Wk.refl h.1) (cA.refl h.2)
end
def cA.app:∀{a b c d:List SV},cA S a c->cA S b d->cA S (a++b) (c++d)
 | _,_,_,_,.nil,h=>h
 | _,_,_,_,.cons h1 h2,h=>.cons h1 (cA.app h2 h)
end
end
end Go.Ev
namespace Go.Proofs
open Go.Ev
section
variable (P:Program) (t:Nat)
abbrev fS(n:Nat)(z:List AV):Prop:=HL P t=some (n,true)/\di P t=some (.agg z)/\Qk P t=some none/\RV P t=none/\pG P t=true
abbrev fL(e n:Nat):Prop:=HL P t=some (1,false)/\di P t=some (.slice none 0 0 (some 0))/\Ih P t=some (e,n)/\RV P t=none/\jc P t=.sl/\pG P t=true
abbrev fA(n k e s:Nat)(z:AV):Prop:=HL P t=some (n,true)/\di P t=some (.agg (dv k z))/\RV P t=some (k,e,s)/\Qk P t=some (some s)/\jc P t=.other
abbrev fM(k e:Nat):Prop:=HL P t=some (1,false)/\di P t=some (.map none)/\dw P t=some (k,e)/\jc P t=.map
abbrev fT:Prop:=HL P t=some (1,false)/\di P t=some (.str [])/\jc P t=.str/\pG P t=true
abbrev fI(k:IntKind):Prop:=HL P t=some (1,false)/\di P t=some (.int k 0)/\pG P t=true/\jc P t=.other/\isInt P t=true
abbrev fB(z:AV):Prop:=HL P t=some (1,false)/\di P t=some z/\pG P t=true
end
abbrev k0(P:Program)(t i a b c:Nat):Prop:=Ir P t i=some (a,b,c)
abbrev k1(P:Program)(t a b c:Nat):Prop:=k0 P t 0 a b c
abbrev k2(P:Program)(t a b c d e f:Nat):Prop:=k1 P t a b c/\k0 P t 1 d e f
abbrev k3(P:Program)(t a b c d e f g h i:Nat):Prop:=k2 P t a b c d e f/\k0 P t 2 g h i
abbrev k4(P:Program)(t a b c d e f g h i j k l:Nat):Prop:=k3 P t a b c d e f g h i/\k0 P t 3 j k l
abbrev k5(P:Program)(t a b c d e f g h i j k l m n o:Nat):Prop:=k4 P t a b c d e f g h i j k l/\k0 P t 4 m n o
abbrev k6(P:Program)(t a b c d e f g h i j k l m n o p q r:Nat):Prop:=k5 P t a b c d e f g h i j k l m n o/\k0 P t 5 p q r
abbrev k7(P:Program)(t a b c d e f g h i j k l m n o p q r s u v:Nat):Prop:=k6 P t a b c d e f g h i j k l m n o p q r/\k0 P t 6 s u v
abbrev k8(P:Program)(t a b c d e f g h i j k l m n o p q r s u v w x y:Nat):Prop:=k7 P t a b c d e f g h i j k l m n o p q r s u v/\k0 P t 7 w x y
abbrev k9(P:Program)(t a b c d e f g h i j k l m n o p q r s u v w x y z a1 b1:Nat):Prop:=k8 P t a b c d e f g h i j k l m n o p q r s u v w x y/\k0 P t 8 z a1 b1
abbrev We(P:Program)(t a b c d e f g h i j k l m n o p q r s u v w x y z a1 b1 c1 d1 e1:Nat):Prop:=k9 P t a b c d e f g h i j k l m n o p q r s u v w x y z a1 b1/\k0 P t 9 c1 d1 e1
abbrev Wf(P:Program)(t a b c d e f g h i j k l m n o p q r s u v w x y z a1 b1 c1 d1 e1 f1 g1 h1:Nat):Prop:=We P t a b c d e f g h i j k l m n o p q r s u v w x y z a1 b1 c1 d1 e1/\k0 P t 10 f1 g1 h1
abbrev o0(P:Program)(t:Nat):Prop:=HL P t=some (1,false)
abbrev o9(P:Program)(a b c d e f g h i j k l:Nat):Prop:=o0 P a/\o0 P b/\o0 P c/\o0 P d/\o0 P e/\o0 P f/\o0 P g/\o0 P h/\o0 P i/\o0 P j/\o0 P k/\o0 P l
abbrev s0(P:Program)(t:Nat):Prop:=fS P t 1 [.slice none 0 0 (some 0)]/\k1 P t 0 22 1
abbrev s1(P:Program)(t:Nat):Prop:=fS P t 3 [.int .i64 0,.int .i64 0,.slice none 0 0 (some 0)]/\k3 P t 0 3 1 1 3 1 2 25 1
abbrev s2(P:Program)(t:Nat):Prop:=fS P t 4 [.slice none 0 0 (some 0),.int .i64 0,.int .i64 0,.slice none 0 0 (some 0)]/\k2 P t 0 24 1 1 27 3
abbrev s3(P:Program)(t:Nat):Prop:=fS P t 6 [.slice none 0 0 (some 0),.slice none 0 0 (some 0),.slice none 0 0 (some 0),.slice none 0 0 (some 0),.slice none 0 0 (some 0),.slice none 0 0 (some 0)]/\k6 P t 0 30 1 1 31 1 2 32 1 3 33 1 4 30 1 5 34 1
abbrev s4(P:Program)(t:Nat):Prop:=fS P t 1 [.slice none 0 0 (some 0)]/\k1 P t 0 44 1
abbrev s5(P:Program)(t:Nat):Prop:=fS P t 2 [.int .i64 0,.int .i64 0]/\k2 P t 0 3 1 1 3 1
abbrev s6(P:Program)(t:Nat):Prop:=fS P t 6 [.int .i64 0,.int .i64 0,.int .i64 0,.int .i64 0,.int .i64 0,.int .i64 0]/\k3 P t 0 52 2 2 52 2 4 52 2
abbrev s7(P:Program)(t:Nat):Prop:=fS P t 14 [.str [],.str [],.str [],.str [],.int .i64 0,.int .i64 0,.bool false,.slice none 0 0 (some 0),.int .i64 0,.int .i64 0,.int .i64 0,.int .i64 0,.int .i64 0,.int .i64 0]/\k9 P t 0 9 1 1 9 1 2 9 1 3 9 1 4 3 1 5 3 1 6 4 1 7 50 1 8 54 6
abbrev s8(P:Program)(t:Nat):Prop:=fS P t 3 [.str [],.bool false,.slice none 0 0 (some 0)]/\k3 P t 0 9 1 1 4 1 2 59 1
abbrev s9(P:Program)(t:Nat):Prop:=fS P t 3 [.int .i64 0,.str [],.str []]/\k3 P t 0 3 1 1 9 1 2 9 1
abbrev Vy(P:Program)(t:Nat):Prop:=fS P t 6 [.int .i64 0,.str [],.str [],.int .i64 0,.int .i64 0,.slice none 0 0 (some 0)]/\k6 P t 0 3 1 1 9 1 2 9 1 3 3 1 4 3 1 5 69 1
abbrev Vz(P:Program)(t:Nat):Prop:=fS P t 8 [.str [],.str [],.int .i64 0,.str [],.str [],.int .i64 0,.int .i64 0,.slice none 0 0 (some 0)]/\k3 P t 0 9 1 1 9 1 2 71 6
abbrev VA(P:Program)(t:Nat):Prop:=fS P t 4 [.str [],.str [],.slice none 0 0 (some 0),.slice none 0 0 (some 0)]/\k4 P t 0 9 1 1 9 1 2 80 1 3 80 1
abbrev VB(P:Program)(t:Nat):Prop:=fS P t 14 [.int .i64 0,.int .i64 0,.str [],.str [],.str [],.str [],.str [],.str [],.int .i64 0,.int .i64 0,.int .i64 0,.int .i64 0,.int .i64 0,.int .i64 0]/\k9 P t 0 3 1 1 3 1 2 9 1 3 9 1 4 9 1 5 9 1 6 9 1 7 9 1 8 88 6
abbrev UU(P:Program)(t:Nat):Prop:=fS P t 3 [.str [],.str [],.int .i64 0]/\k3 P t 0 9 1 1 9 1 2 3 1
abbrev VC(P:Program)(t:Nat):Prop:=fS P t 2 [.slice none 0 0 (some 0),.map none]/\k2 P t 0 44 1 1 118 1
abbrev VD(P:Program)(t:Nat):Prop:=fS P t 2 [.slice none 0 0 (some 0),.int .i64 0]/\k2 P t 0 46 1 1 3 1
abbrev VE(P:Program)(t:Nat):Prop:=fS P t 28 [.str [],.str [],.str [],.str [],.int .i64 0,.int .i64 0,.bool false,.slice none 0 0 (some 0),.int .i64 0,.int .i64 0,.int .i64 0,.int .i64 0,.int .i64 0,.int .i64 0,.str [],.str [],.str [],.str [],.int .i64 0,.int .i64 0,.bool false,.slice none 0 0 (some 0),.int .i64 0,.int .i64 0,.int .i64 0,.int .i64 0,.int .i64 0,.int .i64 0]/\k2 P t 0 56 14 14 56 14
abbrev VG(P:Program)(t:Nat):Prop:=fS P t 5 [.str [],.str [],.str [],.str [],.int .i64 0]/\k5 P t 0 9 1 1 9 1 2 9 1 3 9 1 4 3 1
abbrev VH(P:Program)(t:Nat):Prop:=fS P t 5 [.str [],.str [],.str [],.int .i64 0,.int .i64 0]/\k5 P t 0 9 1 1 9 1 2 9 1 3 3 1 4 3 1
abbrev VI(P:Program)(t:Nat):Prop:=fS P t 3 [.str [],.slice none 0 0 (some 0),.int .i64 0]/\k3 P t 0 9 1 1 66 1 2 3 1
abbrev UW(P:Program)(t:Nat):Prop:=fS P t 2 [.str [],.str []]/\k2 P t 0 9 1 1 9 1
abbrev VJ(P:Program)(t:Nat):Prop:=fS P t 6 [.int .i64 0,.int .i64 0,.int .i64 0,.int .i64 0,.int .i64 0,.int .i64 0]/\k1 P t 0 88 6
abbrev VK(P:Program)(t:Nat):Prop:=fS P t 5 [.str [],.str [],.str [],.int .i64 0,.int .i64 0]/\k1 P t 0 153 5
abbrev VM(P:Program)(t:Nat):Prop:=fS P t 4 [.ptr none,.ptr none,.ptr none,.str []]/\k4 P t 0 17 1 1 17 1 2 17 1 3 9 1
abbrev VN(P:Program)(t:Nat):Prop:=fS P t 0 []/\k1 P t 0 357 0
abbrev VP(P:Program)(t:Nat):Prop:=fS P t 11 [.int .u64 0,.int .u64 0,.int .u32 0,.int .u8 0,.int .u8 0,.int .u8 0,.int .u8 0,.ej,.ptr none,.int .i32 0,.int .i32 0]/\Wf P t 0 12 1 1 12 1 2 281 1 3 361 1 4 5 1 5 5 1 6 362 1 7 363 1 8 364 1 9 365 1 10 366 1
abbrev VT(P:Program):Prop:=s0 P 23/\s0 P 24/\s1 P 26/\s1 P 27/\s2 P 28/\s2 P 29/\s3 P 35/\s3 P 36/\s4 P 45/\s4 P 46/\s5 P 51/\s5 P 52/\s6 P 53/\s6 P 54/\s6 P 87/\s6 P 88/\s7 P 55/\s7 P 56/\s8 P 60/\s8 P 61/\s9 P 64/\s9 P 65/\Vy P 70/\Vy P 71
def PM:VT b0:=by
 (repeat' apply be)<;>(change _=_;kernel_rfl)
abbrev VU(P:Program):Prop:=Vz P 72/\Vz P 73/\VA P 81/\VA P 82/\VB P 89/\VB P 90/\UU P 95/\UU P 96/\UU P 136/\UU P 137/\VC P 119/\VC P 120/\VD P 127/\VD P 128/\VE P 142/\VE P 143/\VG P 146/\VG P 147/\VH P 152/\VH P 153/\VI P 154/\VI P 155/\UW P 197/\UW P 198
def PN:VU b0:=by
 (repeat' apply be)<;>(change _=_;kernel_rfl)
abbrev VV(P:Program):Prop:=UW P 247/\UW P 248/\VJ P 202/\VJ P 203/\VK P 226/\VK P 227/\VM P 355/\VM P 356/\VN P 358/\VN P 359/\VP P 367/\VP P 368/\o9 P 1 38 39 40 42 43 49 58 63 67 68 75/\o9 P 76 77 78 79 83 84 85 86 91 92 94 97/\o9 P 100 101 102 103 104 105 106 107 108 110 111 112/\o9 P 113 114 116 117 121 124 125 126 129 130 131 132/\o9 P 135 138 139 140 141 144 145 148 149 150 151 156/\o9 P 157 158 159 160 161 162 163 164 165 166 167 168/\o9 P 169 170 172 173 174 175 177 178 179 180 182 183/\o9 P 184 185 186 187 188 189 190 191 192 193 194 195/\o9 P 196 199 201 204 205 206 207 208 209 211 212 213/\o9 P 214 215 216 218 219 220 221 222 223 224 225 228/\o9 P 230 231 232 233 234 235 236 237 238 239 240 242/\o9 P 243 244 246 249 252 254 255 256 257 258 259 260
def PO:VV b0:=by
 (repeat' apply be)<;>(change _=_;kernel_rfl)
abbrev VW(P:Program):Prop:=o9 P 261 262 263 264 265 266 267 268 269 270 272 275/\o9 P 276 277 278 279 280 282 284 285 286 289 290 291/\o9 P 292 293 294 295 296 297 298 299 300 301 302 303/\o9 P 304 305 306 307 308 309 311 312 313 314 315 316/\o9 P 317 319 320 321 323 324 325 326 327 328 330 331/\o9 P 332 333 334 335 336 337 338 339 340 341 343 346/\o9 P 347 348 349 350 351 352 353 354 360 363 369 371/\fI P 2 .i64/\fI P 3 .i64/\fB P 4 (.bool false)/\fI P 5 .u8/\fT P 9/\fI P 21 .i32/\fL P 22 61 3/\fL P 25 27 3/\fL P 30 73 8/\fL P 31 147 5/\fL P 32 153 5/\fL P 33 96 3/\fL P 34 82 4/\fL P 37 90 14/\fL P 41 65 3/\fL P 44 56 14/\fI P 47 .i64
def PQ:VW b0:=by
 (repeat' apply be)<;>(change _=_;kernel_rfl)
abbrev VX(P:Program):Prop:=fL P 50 198 2/\fL P 59 155 3/\fL P 66 9 1/\fL P 69 71 6/\fI P 74 .i64/\fL P 80 3 1/\fM P 98 65 4/\fM P 99 65 4/\fB P 115 (.ptr none)/\fM P 118 9 3/\fM P 123 9 9/\fM P 133 9 4/\fM P 134 137 4/\fL P 200 52 2/\fI P 210 .u64/\fA P 241 256 256 5 1 (.int .u8 0)/\fM P 245 248 4/\fB P 250 (.ptr none)/\fA P 251 3 3 250 1 (.ptr none)/\fB P 253 (.ptr none)/\fI P 271 .i64/\fI P 273 .i64/\fI P 281 .u32/\fI P 283 .u64
def PS:VX b0:=by
 (repeat' apply be)<;>(change _=_;kernel_rfl)
abbrev VY(P:Program):Prop:=fM P 288 9 286/\fA P 310 8 8 9 1 (.str [])/\fI P 318 .u64/\fB P 322 (.ptr none)/\fL P 329 108 1/\fL P 342 271 1/\fB P 344 (.ptr none)/\fA P 357 0 0 16 1 (.ptr none)/\fI P 361 .u8/\fI P 362 .u8/\fB P 364 (.ptr none)/\fI P 365 .i32/\fI P 366 .i32
def PT:VY b0:=by
 (repeat' apply be)<;>(change _=_;kernel_rfl)
def aF:VT b0/\VU b0/\VV b0/\VW b0/\VX b0/\VY b0:=⟨PM,PN,PO,PQ,PS,PT⟩
end Go.Proofs
namespace Go.Ev
variable{a:Prop}{b:Prop}
def y2(a1:a)(b1:b):a/\b:=⟨a1,b1⟩
variable{c:Prop}
def y3(a1:a)(b1:b)(c1:c):a/\b/\c:=⟨a1,b1,c1⟩
variable{d:Prop}
def y4(a1:a)(b1:b)(c1:c)(d1:d):a/\b/\c/\d:=⟨a1,b1,c1,d1⟩
variable{e:Prop}
def y5(a1:a)(b1:b)(c1:c)(d1:d)(e1:e):a/\b/\c/\d/\e:=⟨a1,b1,c1,d1,e1⟩
def y6{f:Prop}(a1:a)(b1:b)(c1:c)(d1:d)(e1:e)(f1:f):a/\b/\c/\d/\e/\f:=⟨a1,b1,c1,d1,e1,f1⟩
def y7{f g:Prop}(a1:a)(b1:b)(c1:c)(d1:d)(e1:e)(f1:f)(g1:g):a/\b/\c/\d/\e/\f/\g:=⟨a1,b1,c1,d1,e1,f1,g1⟩
def y8{f g h:Prop}(a1:a)(b1:b)(c1:c)(d1:d)(e1:e)(f1:f)(g1:g)(h1:h):a/\b/\c/\d/\e/\f/\g/\h:=⟨a1,b1,c1,d1,e1,f1,g1,h1⟩
section
variable {P:Program} {f:Fm} {S:List SO} {o:Nat}
def ml(v:AV):names o (.a v)=false:=by rw[names];all_goals (intros;contradiction)
def Gp(n e:Nat)(cs:List SV):names o (.sl n e cs)=false:=by rw[names];all_goals (intros;contradiction)
def Gm(ks:List AV)(vs:List SV):names o (.im ks vs)=false:=by rw[names];all_goals (intros;contradiction)
def Gn(cs:List SV):names o (.ip cs)=false:=by rw[names];all_goals (intros;contradiction)
def Ci:names o .any=false:=by rw[names];all_goals (intros;contradiction)
def Qp(k:IntKind)(n:Int):cP (.a (.int k n))=some [.a (.int k n)]:=rfl
def Qq(s:List Nat):cP (.a (.str s))=some [.a (.str s)]:=rfl
def Qo(b:Bool):cP (.a (.bool b))=some [.a (.bool b)]:=rfl
def Lq(o:Option (Nat×Nat))(n e:Nat)(c:Option Nat):cP (.a (.slice o n e c))=some [.a (.slice o n e c)]:=rfl
def NG(n e:Nat)(cs:List SV):cP (.sl n e cs)=some [.sl n e cs]:=rfl
def ND(ks:List AV)(vs:List SV):cP (.im ks vs)=some [.im ks vs]:=rfl
def NF(cs:List SV):cP (.ip cs)=some [.ip cs]:=rfl
def Ia(o off:Nat):cP (.ptr o off)=some [.ptr o off]:=rfl
def H9(o:Nat):cP (.map o)=some [.map o]:=rfl
def Gl(e:Nat):names o (.e0 e)=false:=by rw[names];all_goals (intros;contradiction)
def Lv(o off n e:Nat)(c:Option Nat):cP (.sub o off n e c)=some [.sub o off n e c]:=rfl
def NB(e:Nat):cP (.e0 e)=some [.e0 e]:=rfl
def Lt(o n e:Nat)(c:Option Nat):cP (.buf o n e c)=some [.buf o n e c]:=rfl
def Lu(g:FuncId)(a b:List SV):cP (.fn g a b)=some [.fn g a b]:=rfl
def NC(t:TypeId)(v:SV):cP (.iface t v)=some [.iface t v]:=rfl
def Ri(n e:Nat)(cs:List SV):eP (.sl n e cs)=true:=rfl
def Rf(ks:List AV)(vs:List SV):eP (.im ks vs)=true:=rfl
def Rg(cs:List SV):eP (.ip cs)=true:=rfl
def OP(o off:Nat):eP (.ptr o off)=true:=rfl
def OO(o:Nat):eP (.map o)=true:=rfl
def OQ(o off n e:Nat)(c:Option Nat):eP (.sub o off n e c)=true:=rfl
def Rb(e:Nat):eP (.e0 e)=true:=rfl
def ON(o n e:Nat)(c:Option Nat):eP (.buf o n e c)=true:=rfl
def Rc(g:FuncId)(a b:List SV):eP (.fn g a b)=true:=rfl
def Re(t:TypeId)(v:SV):eP (.iface t v)=true:=rfl
def Tg(k:IntKind)(n:Int):ki (.int k n)=true:=rfl
def Th(s:List Nat):ki (.str s)=true:=rfl
def Tf(b:Bool):ki (.bool b)=true:=rfl
def Ra(o:Option (Nat×Nat))(n e:Nat)(c:Option Nat):ki (.slice o n e c)=true:=rfl
def Ur(k:IntKind)(n:Int):uC (.int k n)=.a (.int k n):=rfl
def Us(s:List Nat):uC (.str s)=.a (.str s):=rfl
def Uq(b:Bool):uC (.bool b)=.a (.bool b):=rfl
def Tx(o:Option (Nat×Nat))(n e:Nat)(c:Option Nat):uC (.slice o n e c)=.a (.slice o n e c):=rfl
def RG(o:Option (Nat×Nat)):uC (.ptr o)=.a (.ptr o):=rfl
def RF(o:Option Nat):uC (.map o)=.a (.map o):=rfl
def Tw:uC .ej=.a .ej:=rfl
def bK(v w:SV)(l:List SV):eC (v::w::l)=.cx (v::w::l):=rfl
def Ts(x:Operand)(aS:Array Operand)(ats:Array TypeId):dk P f S (.call { callee:=.value x,args:=aS,argTypes:=ats })=none:=rfl
def Tq(x:Operand)(m:String)(aS:Array Operand)(ats:Array TypeId):dk P f S (.call { callee:=.invoke x m,args:=aS,argTypes:=ats })=none:=rfl
def oX(k:IntKind)(n:Nat):df (.int k (n:Int))=some n:=rfl
def Mb(k:IntKind)(n:Nat):df (.int k (OfNat.ofNat n))=some n:=rfl
def Lr(cs:List AV):(AV.agg cs).cells=cs:=rfl
def Vh:=y8 @pg.eq_1 @pg.eq_2 @dk.eq_1 @dk.eq_2 @dk.eq_3 @dk.eq_4 @dk.eq_5 (y8 @dk.eq_6 @dk.eq_7 @dk.eq_8 @dk.eq_9 @dk.eq_10 @dk.eq_11 @dk.eq_12 (y8 @dk.eq_13 @dk.eq_14 @dk.eq_15 @dk.eq_16 @dk.eq_17 @dk.eq_18 @dk.eq_19 (y8 @dk.eq_20 @dk.eq_21 @dk.eq_22 @dk.eq_23 @dk.eq_24 @dk.eq_25 @dk.eq_26 (y8 @dk.eq_27 @zk.eq_1 @zk.eq_2 @tX.eq_1 @aO.eq_1 @aO.eq_2 @pN.eq_1 (y5 @pN.eq_2 @lL.eq_1 @lL.eq_2 @bT.eq_1 @bT.eq_2)))))
def Vi:=y8 @Ld.eq_1 @Ld.eq_2 @eW.eq_1 @eW.eq_2 @eW.eq_3 @eW.eq_4 @qe.eq_1 (y8 @qe.eq_2 @lQ.eq_1 @lQ.eq_2 @xl.eq_1 @xl.eq_2 @tF.eq_1 @tF.eq_2 (y8 @C7.eq_1 @nH.eq_1 @cR.eq_1 @cR.eq_2 @cR.eq_3 @iY.eq_1 @iY.eq_2 (y8 @IL.eq_1 @A6.eq_1 @A6.eq_2 @A6.eq_3 @zh.eq_1 @zh.eq_2 @zh.eq_3 (y8 @zh.eq_4 @zh.eq_5 @um.eq_1 @um.eq_2 @um.eq_3 @dh.eq_1 @eJ.eq_1 (y3 @Be.eq_1 @Be.eq_2 @gS.eq_1)))))
def Vj:=y8 @gS.eq_2 @gS.eq_3 @gS.eq_4 @gS.eq_5 @KK.eq_1 @D3.eq_1 @bH.eq_1 (y8 @bH.eq_2 @bH.eq_3 @bH.eq_4 @bH.eq_5 @pK.eq_1 @yJ.eq_1 @pQ.eq_1 (y8 @Dw.eq_1 @nk.eq_1 @nk.eq_2 @nk.eq_3 @nk.eq_4 @bW.eq_1 @bW.eq_2 (y8 @bW.eq_3 @bW.eq_4 @bW.eq_5 @bW.eq_6 @bW.eq_7 @dB.eq_1 @pd.eq_1 (y8 @pd.eq_2 @pd.eq_3 @eC.eq_1 @iN.eq_1 @uC.eq_1 @cP.eq_1 @cP.eq_2 (y8 @cP.eq_3 @eP.eq_1 @eP.eq_2 @eP.eq_3 @eP.eq_4 @names.eq_1 @names.eq_2 (y2 @names.eq_3 @names.eq_4))))))
def Vk:=y8 @names.eq_5 @names.eq_6 @names.eq_7 @eI.eq_1 @eI.eq_2 @aP.eq_1 @uX.eq_1 (y8 @uX.eq_2 @CX.eq_1 @CX.eq_2 @kX.eq_1 @kX.eq_2 @ml @Gp (y8 @Gm @Gn @Ci @Lq @Qp @Qq @Qo (y8 @NG @ND @NF @Lt @NC @Ri @Rf (y8 @Rg @OP @OO @ON @Rc @Re @Tg (y5 @Th @Tf @Ra @Ur @Us)))))
def Vl:=y8 @Uq @Tx @RG @RF @Tw @bK @Ts (y8 @Tq @oX @Ia @H9 @Lu @Mb @Lr (y8 @Ls @TH @Nv @Nz @Ny @Nw @yp (y8 @Nx (λ{P:Program} {t:TypeId} {a b:Int}=>@J5 P t a b _ B8) (λ{P:Program} {t:TypeId} {a b:Int}=>@C5 P t a b _ B8) (λ{P:Program} {t:TypeId} {a b:Int}=>@J4 P t a b _ B8) (λ{P:Program} {t:TypeId} {a b:Int}=>@J3 P t a b _ B8) (λ{P:Program} {t:TypeId} {a b:Int}=>@C4 P t a b _ B8) (λ{P:Program} {t:TypeId} {a b:Int}=>@tl P t a b _ B8) (y8 (λ{P:Program} {t:TypeId} {a b:Int}=>@J5 P t a b _ LY) (λ{P:Program} {t:TypeId} {a b:Int}=>@C5 P t a b _ LY) (λ{P:Program} {t:TypeId} {a b:Int}=>@J4 P t a b _ LY) (λ{P:Program} {t:TypeId} {a b:Int}=>@J3 P t a b _ LY) (λ{P:Program} {t:TypeId} {a b:Int}=>@C4 P t a b _ LY) (λ{P:Program} {t:TypeId} {a b:Int}=>@tl P t a b _ LY) @names.eq_8 (y8 @zh.eq_6 @zh.eq_7 @um.eq_4 @um.eq_5 @bH.eq_6 @bH.eq_7 @nk.eq_6 (y8 @nk.eq_8 @nk.eq_9 @nk.eq_10 @gS.eq_6 @gS.eq_7 @gS.eq_8 @Nn.eq_1 (y8 @Nn.eq_2 @Nn.eq_3 @Lj.eq_1 @Lj.eq_2 @Lj.eq_3 @Lj.eq_4 @Ke.eq_1 (y8 @NR.eq_1 @Da.eq_1 @TN.eq_1 @TN.eq_2 @H8.eq_1 @H8.eq_2 @H8.eq_3 (y8 @H8.eq_4 @Gl @Lv @NB @OQ @Rb @xB.eq_1 @xV.eq_1)))))))))
def cY:=y5 Vh Vi Vj Vk Vl
end
noncomputable section
def kc:Op->Bool
 | .move _ | .assign _ | .pick _ _ _ | .build _ _ | .nilCheck _ | .binOp _ _ _ _ _ | .unOp _ _ _ | .convert _ _ _ | .fieldAddr _ _ _ | .field _ _ _ | .indexAddr _ _ _ | .index _ _ _ | .extract _ _ | .load _ _ | .lookup _ _ _ _ | .slice _ _ _ _ _=>true
 | .makeFunc (.func _) _ _=>true
 | .makeFunc (.method _) _ _=>true
 | .call { callee:=.builtin .len,.. }=>true
 | _=>false
def Iz:Op->Bool
 | .load _ _ | .lookup _ _ _ _ | .call _ | .slice _ _ _ _ _=>true
 | _=>false
variable{P:Program}
def Pw{f:Fm}{S S':List SO}{op:Op}(hr:kc op=true){v:SV}{kill:Option Nat}(h:dk P f S op=some (v,S',kill)):S'=S/\kill=none:=by
 cases op with
 | move x=>obtain⟨_,_,e⟩:=az h;cases e;exact⟨rfl,rfl⟩
 | assign x=>obtain⟨_,_,e⟩:=az h;cases e;exact⟨rfl,rfl⟩
 | pick c a b=>obtain⟨_,_,e⟩:=az h;cases e;exact⟨rfl,rfl⟩
 | build tt ps=>obtain⟨_,_,h⟩:=ul h;obtain⟨_,_,e⟩:=az h;cases e;exact⟨rfl,rfl⟩
 | nilCheck x=>obtain⟨_,_,h⟩:=ul h;obtain⟨_,_,e⟩:=az h;cases e;exact⟨rfl,rfl⟩
 | binOp op xt x y yt=>
  obtain⟨_,_,h⟩:=ul h;obtain⟨_,_,h⟩:=ul h;obtain⟨_,_,h⟩:=ul h;obtain⟨_,_,h⟩:=ul h;obtain⟨_,_,e⟩:=az h;cases e;exact⟨rfl,rfl⟩
 | unOp op xt x=>
  obtain⟨_,_,h⟩:=ul h;obtain⟨_,_,h⟩:=ul h;obtain⟨_,_,e⟩:=az h;cases e;exact⟨rfl,rfl⟩
 | convert s d x=>
  obtain⟨_,_,h⟩:=ul h;obtain⟨_,_,h⟩:=ul h;obtain⟨_,_,e⟩:=az h;cases e;exact⟨rfl,rfl⟩
 | fieldAddr s x fl=>obtain⟨_,_,h⟩:=ul h;obtain⟨_,_,e⟩:=az h;cases e;exact⟨rfl,rfl⟩
 | field s x fl=>obtain⟨_,_,h⟩:=ul h;obtain⟨_,_,e⟩:=az h;cases e;exact⟨rfl,rfl⟩
 | indexAddr s x i=>
  obtain⟨_,_,h⟩:=ul h;obtain⟨_,_,h⟩:=ul h;obtain⟨_,_,e⟩:=az h;cases e;exact⟨rfl,rfl⟩
 | index s x i=>
  obtain⟨_,_,h⟩:=ul h;obtain⟨_,_,h⟩:=ul h;obtain⟨_,_,e⟩:=az h;cases e;exact⟨rfl,rfl⟩
 | extract x i=>
  simp only[dk] at h;split at h
  ·obtain⟨_,_,e⟩:=az h;cases e;exact⟨rfl,rfl⟩
  ·cases h
 | makeFunc g first cap=>
  cases g with
  | func g=>obtain⟨_,_,h⟩:=ul h;obtain⟨_,_,e⟩:=az h;cases e;exact⟨rfl,rfl⟩
  | method nm=>
   obtain⟨_,_,h⟩:=ul h;obtain⟨_,_,h⟩:=ul h;obtain⟨_,_,h⟩:=ul h;obtain⟨_,_,e⟩:=az h;cases e;exact⟨rfl,rfl⟩
  | _=>simp[kc] at hr
 | load tt a=>obtain⟨_,_,h⟩:=ul h;obtain⟨_,_,e⟩:=az h;cases e;exact⟨rfl,rfl⟩
 | lookup tt x k ok=>
  obtain⟨_,_,h⟩:=ul h;obtain⟨_,_,h⟩:=ul h;obtain⟨_,_,e⟩:=az h;cases e;exact⟨rfl,rfl⟩
 | slice tt x lo hi mx=>
  obtain⟨_,_,h⟩:=ul h;obtain⟨_,_,h⟩:=ul h;obtain⟨_,_,h⟩:=ul h;obtain⟨_,_,h⟩:=ul h;obtain⟨_,_,e⟩:=az h;cases e;exact⟨rfl,rfl⟩
 | call c=>
  obtain⟨callee,aS,ats⟩:=c
  cases callee with
  | builtin b=>
   cases b with
   | len=>
    obtain⟨_,_,h⟩:=ul h;rename_i vs _
    cases hats:ats.toList with
    | nil=>rw[hats] at h;cases h
    | cons tt l=>
     rw[hats] at h
     cases vs with
     | nil=>cases h
     | cons x l'=>
      have h:(zh P S tt x).map (λ(n:Nat)=>((SV.a (.int .i64 (n:Int)),S,none):SV×List SO×Option Nat))=some (v,S',kill):=h;obtain⟨_,_,e⟩:=az h;cases e;exact⟨rfl,rfl⟩
   | _=>simp[kc] at hr
  | _=>simp[kc] at hr
 | _=>simp[kc] at hr
section
variable {θ:Nat->Loc} {ρ ρ0:ko} {P:Program}
mutual
def FH:∀{r:SV} {v:AV},cR r=some v->VS θ ρ r v
 | .a w,v,h=>by rw[cR] at h;cases h;rw[VS]
 | .ag cs,v,h=>by rw[cR] at h;obtain⟨aS,h1,rfl⟩:=az h;rw[VS];exact⟨aS,rfl,tL h1⟩
 | .any,_,h=>by simp[cR] at h
 | .sl _ _ _,_,h=>by simp[cR] at h
 | .im _ _,_,h=>by simp[cR] at h
 | .ip _,_,h=>by simp[cR] at h
 | .ptr _ _,_,h=>by simp[cR] at h
 | .map _,_,h=>by simp[cR] at h
 | .buf _ _ _ _,_,h=>by simp[cR] at h
 | .sub _ _ _ _ _,_,h=>by simp[cR] at h
 | .e0 _,_,h=>by simp[cR] at h
 | .cx _,_,h=>by simp[cR] at h
 | .fn _ _ _,_,h=>by simp[cR] at h
 | .iface t w,v,h=>by rw[cR] at h;obtain⟨a,h1,rfl⟩:=az h;rw[VS];exact⟨a,rfl,FH h1⟩
def tL:∀{rs:List SV} {vs:List AV},iY rs=some vs->cZ θ ρ rs vs
 | [],vs,h=>by rw[iY] at h;cases h;rw[aZ]
 | d::ds,vs,h=>by
  rw[iY] at h;obtain⟨a,ha,h⟩:=ul h;obtain⟨b,hb,rfl⟩:=az h;rw[aK];exact⟨a,b,rfl,FH ha,tL hb⟩
end
end
section
variable {P:Program} {ro:Option Nat} {Q:Ex->ez->Prop} {f f':Fm} {n:Nat} {S S':List SO} {ds:List jG}
def aE.Si{id:Nat}{ops:Array Oper}{l':List Oper}(hs:dg ops.toList n ops.toList=true)(h:pg P ops.toList ops.toList f S=(l',f',S'))(hk:aN P ro ops.toList l' ⟨f',n,S',ds⟩ (Q .normal)):aE P ro (.region id ops false) ⟨f,n,S,ds⟩ Q:=.region (.run hs h hk)
def aE.r0{id:Nat}{ops:Array Oper}(hs:dg ops.toList n ops.toList=true)(h:pg P ops.toList ops.toList f S=([],f',S'))(hk:Q .normal ⟨f',n,S',ds⟩):aE P ro (.region id ops false) ⟨f,n,S,ds⟩ Q:=.Si hs h (.nil hk)
def aN.r0{all l:List Oper}{K:ez->Prop}(hs:dg all n l=true)(h:pg P all l f S=([],f',S'))(hk:K ⟨f',n,S',ds⟩):aN P ro all l ⟨f,n,S,ds⟩ K:=.run hs h (.nil hk)
theorem aN.k{all:List Oper}{o:Oper}{l:List Oper}{K:ez->Prop}{d:Nat}{c:Call}{g:FuncId}{vs ws:List SV}{r:SV}(hst:dg all n [o]=true)(hop:o.op=.call c)(hdst:o.dst=some d)(hw:bT all f o.guard=some true)(hdy:fR (.call c)=true)
 (hc:iN P f c=some (g,vs)) (hq:PC P g ws (·=r)) (hwk:cA S vs ws) (hfl:wa r=true\/cA [] vs ws) (hk:aN P ro all l ⟨(d,r)::f,n,S,ds⟩ K):aN P ro all (o::l) ⟨f,n,S,ds⟩ K:=by
 have hd:=(fO hst).1;rw[hdst] at hd;exact .call hop hdst (fb hst hw) hdy hd hc hq hwk (hfl.imp (λh r hr=>by rw[hr];exact h) id) (λr hr=>by rw[hr];exact hk)
end
def Ut:(∀(a:SV) (l:List SV) (i:Nat),(a::l)[i+1]?=l[i]?)/\(∀(a:SV) (l:List SV),(a::l)[0]?=some a)/\(∀(a:AV) (l:List AV) (i:Nat),(a::l)[i+1]?=l[i]?)/\(∀(a:AV) (l:List AV),(a::l)[0]?=some a)/\(∀(a:SO) (l:List SO) (i:Nat),(a::l)[i+1]?=l[i]?)/\(∀(a:SO) (l:List SO),(a::l)[0]?=some a)/\(∀(a:Oper) (l:List Oper) (i:Nat),(a::l)[i+1]?=l[i]?)/\(∀(a:Oper) (l:List Oper),(a::l)[0]?=some a)/\(∀(a:SV) (l:List SV) (i:Nat),(a::l).drop (i+1)=l.drop i)/\(∀l:List SV,l.drop 0=l)/\(∀i:Nat,([]:List SV).drop i=[])/\(∀(i:Nat) (a:SV) (l:List SV),(a::l).take (i+1)=a::l.take i)/\(∀l:List SV,l.take 0=[])/\(∀i:Nat,([]:List SV).take i=[])/\(∀(p:SV->Bool) (a:SV) (l:List SV),(a::l).all p=(p a&&l.all p))/\(∀p:SV->Bool,([]:List SV).all p=true)/\(∀l:List SV,[]++l=l)/\(∀(a:SV) (l m:List SV),(a::l)++m=a::(l++m))/\(∀(a b:SV) (l:List SV),(a::l).set 0 b=b::l)/\(∀(a b:SV) (l:List SV) (i:Nat),(a::l).set (i+1) b=a::l.set i b)/\(∀l:List SO,[]++l=l)/\(∀(a:SO) (l m:List SO),(a::l)++m=a::(l++m))/\(∀(a b:SO) (l:List SO),(a::l).set 0 b=b::l)/\(∀(a b:SO) (l:List SO) (i:Nat),(a::l).set (i+1) b=a::l.set i b)/\(∀(a:SV) (l:List SV),(a::l).length=l.length+1)/\(([]:List SV).length=0)/\(∀(a:SO) (l:List SO),(a::l).length=l.length+1)/\(([]:List SO).length=0)/\(∀(a:AV) (l:List AV),(a::l).length=l.length+1)/\(([]:List AV).length=0):=by
 (repeat' apply be)<;>intros<;>first | rfl | (simp;done) | (unfold qC;rfl)
def Uu:(∀(f:AV->SV) (a:AV) (l:List AV),(a::l).map f=f a::l.map f)/\(∀f:AV->SV,([]:List AV).map f=[])/\(∀(f:SV->SV) (a:SV) (l:List SV),(a::l).map f=f a::l.map f)/\(∀f:SV->SV,([]:List SV).map f=[])/\(∀(f:SO->SO) (a:SO) (l:List SO),(a::l).map f=f a::l.map f)/\(∀f:SO->SO,([]:List SO).map f=[])/\(∀(f:(Nat×SV)->(Nat×SV)) (a:(Nat×SV)) (l:List (Nat×SV)),(a::l).map f=f a::l.map f)/\(∀f:(Nat×SV)->(Nat×SV),([]:List (Nat×SV)).map f=[])/\(∀l:List Oper,l.toArray.toList=l)/\(∀l:List Operand,l.toArray.toList=l)/\(∀l:List TypeId,l.toArray.toList=l)/\(∀l:List (Nat×Operand),l.toArray.toList=l)/\(∀l:List ResultVar,l.toArray.toList=l)/\(∀x y:SV,cond true x y=x)/\(∀x y:SV,cond false x y=y)/\(∀x y:Bool,cond true x y=x)/\(∀x y:Bool,cond false x y=y)/\(∀x y:Option (SV×List SO×Option Nat),cond true x y=x)/\(∀x y:Option (SV×List SO×Option Nat),cond false x y=y)/\(∀x y:Option SV,cond true x y=x)/\(∀x y:Option SV,cond false x y=y)/\(∀x y:Option (List SO),cond true x y=x)/\(∀x y:Option (List SO),cond false x y=y)/\(∀n:Nat,0+n=n)/\(∀n:Nat,n+0=n)/\(∀n:Nat,0*n=0)/\(∀b,(b||false)=b)/\(∀b,(false||b)=b)/\(∀b,(b||true)=true)/\(∀b,(true||b)=true):=by
 (repeat' apply be)<;>intros<;>first | rfl | (simp;done) | (unfold qC;rfl)
def Uv:(∀b,(b&&true)=b)/\(∀b,(true&&b)=b)/\(∀b,(b&&false)=false)/\(∀b,(false&&b)=false)/\((!true)=false)/\((!false)=true)/\(∀p:Prop,(p/\True)=p)/\(∀p:Prop,(True/\p)=p)/\((¬False)=True)/\((¬True)=False)/\(∀a b:Nat,(a≠b)=¬(a=b))/\(∀b:Bool,(b=b)=True)/\(∀n:Nat,(n=n)=True)/\((false=true)=False)/\((true=false)=False)/\(∀{α:Type} (p:Prop) [Decidable p] (x:Option α),qC p x=if p then x else none):=by
 (repeat' apply be)<;>intros<;>first | rfl | (simp;done) | (unfold qC;rfl)
def Uw:(∀(k:IntKind) (n:Int),lZ mP (.int k n)=some (.int k n))/\(∀b,lZ mP (.bool b)=some (.bool b))/\(lZ mP (.pointer none)=some (.ptr none))/\(lZ mP (.slice none 0 0)=some (.slice none 0 0 (some 0)))/\(lZ mP (.map none)=some (.map none))/\(lZ mP .nilFunc=some .ej)/\(∀s,lZ mP (.string s)=some (.str (s.data.toList.map (·.toNat))))/\(∀l:List UInt8,l.toArray.toList=l)/\(∀(f:UInt8->Nat) (a:UInt8) (l:List UInt8),(a::l).map f=f a::l.map f)/\(∀f:UInt8->Nat,([]:List UInt8).map f=[])/\(∀h:Decidable False,@decide False h=false)/\(∀h:Decidable True,@decide True h=true):=by
 (repeat' apply be)<;>intros<;>first | rfl | (simp;done)
def Ux:(∀l:List (Nat×SV),[]++l=l)/\(∀(a:Nat×SV) (l m:List (Nat×SV)),(a::l)++m=a::(l++m))/\(∀z:List AV,rep z 0=[])/\(∀(z:List AV) (n:Nat),rep z (n+1)=z++rep z n)/\(∀l:List AV,[]++l=l)/\(∀(a:AV) (l m:List AV),(a::l)++m=a::(l++m))/\(∀s,(AV.str s).cells=[.str s])/\(∀k n,(AV.int k n).cells=[.int k n])/\(∀b,(AV.bool b).cells=[.bool b])/\(∀o n e c,(AV.slice o n e c).cells=[.slice o n e c])/\(∀o,(AV.ptr o).cells=[.ptr o])/\(∀o,(AV.map o).cells=[.map o])/\(AV.ej.cells=[.ej])/\(AV.xk.cells=[.xk]):=by
 (repeat' apply be)<;>intros<;>first | rfl | (simp;done)
def bP:type_of% Ut/\type_of% Uu/\type_of% Uv/\type_of% Uw/\type_of% Ux:=⟨Ut,Uu,Uv,Uw,Ux⟩
def fU(k:Nat):((k+1:Nat):Int)=(k:Int)+1:=rfl
def Iv{k l B:Nat}(h1:k<l)(h2:l<=B)(hB:B<=9223372036854775807) : -9223372036854775808<=(k:Int)+1/\(k:Int)+1<=9223372036854775807:=⟨by omega,by omega⟩
def BJ.of{fn:Func}{Q:SV->Prop}{e:Ex}{f:Fm}{n:Nat}{S:List SO}{rs:List ResultVar}{vs:List SV}{r:SV}(he:kE e=true)(hr:fn.results.toList=rs)(h:pd P f S rs=some vs)(hw:Wk S (eC vs) r)(hq:Q r):BJ P fn Q e ⟨f,n,S,[]⟩:=by
 subst hr;exact⟨he,rfl,vs,r,h,hw,hq⟩
abbrev ah(s:List Nat):SV:=.a (.str s)
abbrev ab(n:Int):SV:=.a (.int .i64 n)
abbrev an(b:Bool):SV:=.a (.bool b)
variable{α:Type}
def ao(e:Nat)(l:List α)(enc:α->List SV):SV:=.sl l.length e (l.flatMap enc)
def aL{α:Type}{e:Nat}{enc:α->List SV}(he:∀x,(enc x).length=e):∀{l:List α} {i:Nat} {x:α},l[i]?=some x->((l.flatMap enc).drop (i*e)).take e=enc x
 | [],i,x,h=>by simp at h
 | a::l,0,x,h=>by
  simp only[ax,qr] at h;subst h;rw[bN,b6,cv,List.take_append_of_le_length (by rw[he];exact bw _),ce (by rw[he];exact bw _)]
 | a::l,i+1,x,h=>by
  simp only[ap] at h;have ih:=aL he h;rw[cv,d3,Nat.add_comm,<-a4,show List.drop e (enc a++l.flatMap enc)=l.flatMap enc from by rw[List.drop_append_of_le_length (by rw[he];exact bw _),bq (by rw[he];exact bw _),dc]];exact ih
def gf(p:α->Bool)(l:List α):Int:=match l.findIdx? p with
 | some k=>(k:Int)
 | none => -1
def mb{p:α->Bool}{l:List α}{k:Nat}{x:α}(h1:l[k]?=some x)(h2:p x=true)(h3:∀(i:Nat) y,i<k->l[i]?=some y->p y=false):gf p l=(k:Int):=by
 have:l.findIdx? p=some k:=by
  rw[List.findIdx?_eq_some_iff_getElem];obtain⟨hlt,he⟩:=rt h1;refine⟨hlt,by rw[he];exact h2,λj hj=>?_⟩;rw[h3 j _ hj (jp i4)];decide
 unfold gf;rw[this]
def iC{p:α->Bool}{l:List α}(h3:∀(i:Nat) y,i<l.length->l[i]?=some y->p y=false):gf p l = -1:=by
 have:l.findIdx? p=none:=by
  rw[List.findIdx?_eq_none_iff];intro x hx;obtain⟨i,hi⟩:=List.mem_iff_getElem?.1 hx;exact h3 i x (bo hi) hi
 unfold gf;rw[this]
def aD(c:α->SV)(x:α):List SV:=[c x]
def PC.of{g:FuncId}{aS:List SV}{xs:List AV}{v:AV}(h:∀h,ee P (.func g) xs h (λa h'=>a=v/\h'=h))(hx:∀ρ avs,j9 ρ aS avs->avs=xs):PC P g aS (·=.a v):=
 λρ hh avs h1 h2=>by
  have:=hx ρ avs h2;subst this;exact(h hh).mono λa h' ⟨e1,e2⟩=>⟨.a v,ρ,rfl,by rw[e2];exact .refl _ _,λid ob hi=>.inl hi,by rw[GS];exact e1⟩
def qf(e:Nat)(l:List α)(enc:α->List SV):ao e l enc=.sl l.length e (l.flatMap enc):=rfl
section
variable {P:Program} {K U:Type} [DecidableEq K] {kv:K->AV} {uv:U->SV} {S:List SO} {t kt et:TypeId} {z:AV} {u0:U} {l:List (K×U)} {o:Nat} {x:SV} {k:K}
def bG(kv:K->AV)(uv:U->SV)(l:List (K×U)):SO:=.map (l.map λe=>kv e.1) (l.map λe=>uv e.2) none
abbrev mc(kv:K->AV)(uv:U->SV)(l:List (K×U)):SV:=.im (l.map λe=>kv e.1) (l.map λe=>uv e.2)
def rE(hk:Keys P kt kv)(k:K):∀(l:List (K×U)) (j:Nat),tJ P kt (kv k) (l.map λe=>kv e.1) j=some (vI k l j)
 | [],_=>rfl
 | e::l,j=>by
  rw[am,tJ,hk.eq];by_cases h:k=e.1
  ·simp only[h,decide_true,vI,if_true]
  ·simp only[h,decide_false,vI,if_false];exact rE hk k l (j+1)
def Gc(hm:dw P t=some (kt,et))(hk:Keys P kt kv)(hz:di P et=some z)(hu:uC z=uv u0)(hS:A6 S x=some (l.map (λe=>kv e.1),l.map λe=>uv e.2)){y:SV}(hf:cR y=some (kv k))(ok:Bool):
 jm P S t x y ok=some (_root_.cond ok (.cx [uv (getM u0 k l),an (dA k l)]) (uv (getM u0 k l))):=by
 unfold jm;rw[hm,m7];simp only;rw[hf,m7,hk.ck,aq,hS,m7];simp only;rw[rE hk,m7]
 cases hp:vI k l 0 with
 | none=>
  have hn:=rS hp;simp only[hz,m6,yR hn,hn,hu]
 | some i=>
  obtain⟨_,u,h2,h3,_,h5⟩:=pb hp;rw[c0] at h2;simp only[a6,h2,m6,h3,h5]
def OC(hm:dw P t=some (kt,et))(hk:Keys P kt kv)(hz:di P et=some z)(hu:uC z=uv u0)(hS:S[o]?=some (bG kv uv l))(hf:cR x=some (kv k))(ok:Bool):
 jm P S t (.map o) x ok=some (_root_.cond ok (.cx [uv (getM u0 k l),an (dA k l)]) (uv (getM u0 k l))):=
 Gc hm hk hz hu (by simp only[A6,hS,bG]) hf ok
def Sb(hm:dw P t=some (kt,et))(hk:Keys P kt kv)(hz:di P et=some z)(hu:uC z=uv u0)(hf:cR x=some (kv k))(ok:Bool):
 jm P S t (mc kv uv l) x ok=some (_root_.cond ok (.cx [uv (getM u0 k l),an (dA k l)]) (uv (getM u0 k l))):=
 Gc hm hk hz hu (by simp only[mc,A6]) hf ok
def IW(hm:dw P t=some (kt,et))(hk:Keys P kt kv)(hS:S[o]?=some (bG kv uv l))(hf:cR x=some (kv k))(u:U):
 iF P S t (.map o) x (uv u)=some (S.set o (bG kv uv (cC k u l))):=by
 unfold iF;rw[hm,m7];simp only;rw[hf,m7,hk.ck,aq,hS];simp only[bG];rw[rE hk,m7]
 cases hp:vI k l 0 with
 | none=>
  have hn:=rS hp;simp only[pc hn,bt,am,bv,Option.map_none]
 | some i=>
  obtain⟨_,u',h2,_,h4,_⟩:=pb hp;rw[c0] at h2;have h4:=h4 u;rw[c0] at h4;simp only[a6,h2,m6,m7,hk.st,aq,h4,List.map_set]
omit [DecidableEq K] in
def mD{n:Nat}(h:∀u,names n (uv u)=false):bW n (bG kv uv l)=bG kv uv l:=by
 simp only[bW,bG,List.map_map]
 congr 1
 refine List.map_congr_left λe _=>?_;simp only[Function.comp,aP,h,aA]
omit [DecidableEq K] in
def pP(h:∀u,mC (uv u)=true):∀l:List (K×U),cj (l.map λe=>uv e.2)=true
 | []=>rfl
 | e::l=>by rw[am,cj,h,b8];exact pP h l
omit [DecidableEq K] in
def mu(h:∀u,mC (uv u)=true)(hS:S[o]?=some (bG kv uv l)):Wk S (.map o) (mc kv uv l):=Wk.map hS (cA.refl (pP h l))
end
def Ow{kt:TypeId}(h:P.underlying kt=some .string):Keys P kt AV.str where
 eq a b:=by unfold lG;rw[h];simp only[lH]
 ck a:=by unfold xg Fs;rw[h]
 st a:=by unfold stays DW;simp only[mQ,Bool.true_and];exact BR _ _
def qP{n:Nat}{l:List (List Nat×Bool)}:bW n (bG AV.str an l)=bG AV.str an l:=mD λ_=>ml _
def S8{n:Nat}{l:List (List Nat×Int)}:bW n (bG AV.str ab l)=bG AV.str ab l:=mD λ_=>ml _
inductive Kd where
 | b
 | i (k:IntKind)
 | s
def M3:Kd->AV->Bool
 | .b,.bool _=>true
 | .i k,.int k' _=>A0 k k'
 | .s,.str _=>true
 | _,_=>false
def sa:List Kd->List AV->Bool
 | [],[]=>true
 | k::ks,x::xs=>M3 k x&&sa ks xs
 | _,_=>false
def yM(P:Program)(rec:TypeId->Option (List Kd)):List Field->Nat->Option (List Kd)
 | [],_=>some []
 | f::fs,off=>cond (!(f.name== "_")&&beq f.offset off) ((rec f.type).bind λks=>(yM P rec fs (off+ks.length)).map λr=>ks++r) none
def flatK(P:Program):Nat->TypeId->Option (List Kd)
 | 0,_=>none
 | d+1,t=>match P.underlying t,HL P t with
  | some .bool,some (1,false)=>some [.b]
  | some (.int k),some (1,false)=>some [.i k]
  | some .string,some (1,false)=>some [.s]
  | some (.struct fs),some (n,true)=>cond (P.stoodInHeld t) none ((yM P (flatK P d) fs.toList 0).bind λks=>cond (beq ks.length n) (some ks) none)
  | _,_=>none
def yY:∀{ks:List Kd} {xs:List AV},sa ks xs=true->xs.length=ks.length
 | [],[],_=>rfl
 | [],_::_,h=>by cases h
 | _::_,[],h=>by cases h
 | k::ks,x::xs,h=>by
  rw[sa,ac] at h;simp[yY h.2]
def sO:∀{k1 k2:List Kd} {xs:List AV},sa (k1++k2) xs=true->sa k1 (xs.take k1.length)=true/\sa k2 (xs.drop k1.length)=true
 | [],k2,xs,h=>⟨rfl,h⟩
 | k::k1,k2,[],h=>by cases h
 | k::k1,k2,x::xs,h=>by
  have h:(M3 k x&&sa (k1++k2) xs)=true:=h;rw[ac] at h;obtain⟨h1,h2⟩:=sO h.2;exact⟨by show(M3 k x&&sa k1 (xs.take k1.length))=true;rw[h.1,h1];rfl,h2⟩
def yi(e:AV->AV->Bool):∀(n:Nat) {xs ys:List AV},xs.length=ys.length->fY e xs ys=(fY e (xs.take n) (ys.take n)&&fY e (xs.drop n) (ys.drop n))
 | 0,xs,ys,_=>by rw[List.take_zero,List.take_zero];rfl
 | n+1,[],[],_=>rfl
 | n+1,x::xs,y::ys,h=>by
  have h:xs.length=ys.length:=by simpa using h
  show(e x y&&fY e xs ys)=((e x y&&fY e (xs.take n) (ys.take n))&&fY e (xs.drop n) (ys.drop n));rw[yi e n h,Bool.and_assoc]
 | n+1,[],y::ys,h=>by simp at h
 | n+1,x::xs,[],h=>by simp at h
section
variable {P:Program}
def EqAt(P:Program)(d:Nat)(t:TypeId)(ks:List Kd):Prop:=
 (∃k,ks=[k]/\HL P t=some (1,false)/\∀x y,M3 k x=true->M3 k y=true->lG P d t x y=some (eG x y)/\Fs P d t x=true)\/
 (HL P t=some (ks.length,true)/\∀xs ys,sa ks xs=true->sa ks ys=true->lG P d t (.agg xs) (.agg ys)=some (fY eG xs ys)/\Fs P d t (.agg xs)=true)
def BV{d:Nat}(hrec:∀t ks,flatK P d t=some ks->EqAt P d t ks):∀{fs:List Field} {off:Nat} {ks:List Kd},yM P (flatK P d) fs off=some ks->∀xs ys,xs.length=ys.length->off+ks.length=xs.length->sa ks (xs.drop off)=true->sa ks (ys.drop off)=true->
 eqFields P (lG P d) fs xs ys=some (fY eG (xs.drop off) (ys.drop off))/\oK P (Fs P d) fs xs=true
 | [],off,ks,h,xs,ys,hl,hle,h1,h2=>by
  simp only[yM,qr] at h;subst h;have e1:xs.drop off=[]:=List.drop_of_length_le (by simp at hle;omega);have e2:ys.drop off=[]:=List.drop_of_length_le (by simp at hle;omega);rw[e1,e2];exact⟨rfl,rfl⟩
 | f::fs,off,ks,h,xs,ys,hl,hle,h1,h2=>by
  simp only[yM] at h;obtain⟨hb,h⟩:=aH h;rw[Bool.and_eq_true] at hb;have hoff:=cS hb.2
  have hnm:(f.name== "_")=false:=by have:=hb.1;cases hq:(f.name== "_");rfl;rw[hq] at this;cases this
  obtain⟨k1,hk1,h⟩:=ul h;obtain⟨r,hr,rfl⟩:=az h;obtain⟨a1,a2⟩:=sO h1;obtain⟨b1,b2⟩:=sO h2;rw[List.drop_drop] at a2 b2;rw[li] at hle;obtain⟨ih1,ih2⟩:=BV hrec hr xs ys hl i4 a2 b2;have hs:=yi eG k1.length (xs:=xs.drop off) (ys:=ys.drop off) (by rw[List.length_drop,List.length_drop,hl]);rw[List.drop_drop,List.drop_drop] at hs
  have hpart:∃p q,e9 P f.type xs f.offset=some p/\e9 P f.type ys f.offset=some q/\lG P d f.type p q=some (fY eG ((xs.drop off).take k1.length) ((ys.drop off).take k1.length))/\Fs P d f.type p=true:=by
   rw[hoff]
   rcases hrec _ _ hk1 with⟨k,rfl,hz,hq⟩ | ⟨hz,hq⟩
   ·obtain⟨z1,z2⟩:=uQ hz;simp only[i7,i5,Nat.zero_add] at hle a1 b1 ⊢;obtain⟨x,hx⟩:∃x,xs[off]?=some x:=⟨xs[off],jp i4⟩;obtain⟨y,hy⟩:∃y,ys[off]?=some y:=⟨ys[off],jp i4⟩
    have ex:(xs.drop off).take 1=[x]:=by rw[List.take_one,List.head?_drop,hx];rfl
    have ey:(ys.drop off).take 1=[y]:=by rw[List.take_one,List.head?_drop,hy];rfl
    rw[ex] at a1;rw[ey] at b1;simp only[sa,Bool.and_true] at a1 b1;obtain⟨q1,q2⟩:=hq x y a1 b1;refine⟨x,y,?_,?_,?_,q2⟩
    ·unfold e9;rw[z1];exact hx
    ·unfold e9;rw[z1];exact hy
    ·rw[ex,ey,q1];simp only[fY,Bool.and_true]
   ·obtain⟨z1,z2⟩:=uQ hz;obtain⟨q1,q2⟩:=hq _ _ a1 b1;refine⟨_,_,?_,?_,q1,q2⟩
    ·unfold e9;rw[z1];simp only;rw[z2,m7,fc (by simp only;omega),aq]
    ·unfold e9;rw[z1];simp only;rw[z2,m7,fc (by simp only;omega),aq]
  obtain⟨p,q,g1,g2,g3,g4⟩:=hpart;refine⟨?_,?_⟩
  ·unfold eqFields;rw[hnm,aA,g1,g2];simp only;rw[g3,hs];cases fY eG ((xs.drop off).take k1.length) ((ys.drop off).take k1.length)
   ·rfl
   ·simp only[Bool.true_and];exact ih1
  ·unfold oK;rw[hnm,g1];simp only;rw[g4,ih2];rfl
def yN:∀(d:Nat) (t:TypeId) (ks:List Kd),flatK P d t=some ks->EqAt P d t ks
 | 0,t,ks,h=>by simp[flatK] at h
 | d+1,t,ks,h=>by
  unfold flatK at h;split at h
  ·rename_i hu hz;cases h;refine .inl ⟨.b,rfl,hz,λx y hx hy=>?_⟩
   cases x<;>first | (simp[M3] at hx;done) | skip
   cases y<;>first | (simp[M3] at hy;done) | skip
   rename_i a b;constructor
   ·unfold lG;rw[hu];simp only[eG];cases a<;>cases b<;>rfl
   ·unfold Fs;rw[hu]
  ·rename_i k hu hz;cases h;refine .inl ⟨.i k,rfl,hz,λx y hx hy=>?_⟩
   cases x<;>first | (simp[M3] at hx;done) | skip
   cases y<;>first | (simp[M3] at hy;done) | skip
   rename_i k1 a k2 b;simp only[M3] at hx hy
   have e1:k=k1:=by cases k<;>cases k1<;>first | rfl | cases hx
   have e2:k=k2:=by cases k<;>cases k2<;>first | rfl | cases hy
   subst e1;subst e2;constructor
   ·unfold lG;rw[hu];simp only[eG,hx,aq,Bool.true_and]
   ·unfold Fs;rw[hu]
  ·rename_i hu hz;cases h;refine .inl ⟨.s,rfl,hz,λx y hx hy=>?_⟩
   cases x<;>first | (simp[M3] at hx;done) | skip
   cases y<;>first | (simp[M3] at hy;done) | skip
   constructor
   ·unfold lG;rw[hu];rfl
   ·unfold Fs;rw[hu]
  ·rename_i fs n hu hz;cases hst:P.stoodInHeld t
   ·rw[hst,aA] at h;obtain⟨ks',hk,h⟩:=ul h;obtain⟨hn,h⟩:=aH h;cases h;have hn:=cS hn;subst hn;refine .inr ⟨hz,λxs ys hx hy=>?_⟩;have l1:=yY hx;have l2:=yY hy;obtain⟨r1,r2⟩:=BV (yN d) hk xs ys i4 i4 hx hy;constructor
    ·unfold lG;rw[hu];simp only;rw[hst,aA];exact r1
    ·unfold Fs;rw[hu];exact r2
   ·rw[hst] at h;cases h
  ·cases h
def vw{K:Type}[DecidableEq K]{t:TypeId}{ks:List Kd}{cells:K->List AV}(hf:flatK P 4 t=some ks)(ha:(HL P t).map (·.2)=some true)(hk:∀a,sa ks (cells a)=true)(he:∀a b,fY eG (cells a) (cells b)=decide (a=b))(hfl:∀a,(cells a).all mQ=true):Keys P t λa=>.agg (cells a):=by
 have key:∀a b,lG P 4 t (.agg (cells a)) (.agg (cells b))=some (decide (a=b))/\Fs P 4 t (.agg (cells a))=true:=by
  intro a b
  rcases yN 4 t ks hf with⟨k,rfl,hz,_⟩ | ⟨_,hq⟩
  ·rw[hz] at ha;cases ha
  ·rw[<-he a b];exact hq _ _ (hk a) (hk b)
 refine⟨λa b=>(key a b).1,λa=>(key a a).2,λa=>?_⟩;unfold stays DW;show((cells a).all mQ&&gV 3 (.agg (cells a)) (.agg (cells a)))=true;rw[hfl a,b8];refine LJ _ _ ?_
 have:∀l:List AV,l.all mQ=true->fY (gV 2) l l=true:=by
  intro l
  induction l with
  | nil=>intro _;rfl
  | cons x l ih=>
   intro h;rw[ci,ac] at h;show(gV 2 x x&&fY (gV 2) l l)=true;rw[ih h.2,cp]
   cases x<;>first | (cases h.1;done) | exact Ij _ _ | exact LK _ _ _ | exact BR _ _
 exact this _ (hfl a)
def tj{t:TypeId}{ks:List Kd}{xs ys:List AV}{b:Bool}(hg:P.eqGuardType P.depth t=false)(hf:flatK P 8 t=some ks)(ha:(HL P t).map (·.2)=some true)(hx:sa ks xs=true)(hy:sa ks ys=true)(he:fY eG xs ys=b):c8 P .eql t (.agg xs) (.agg ys)=some (.bool b):=by
 have:lG P 8 t (.agg xs) (.agg ys)=some b:=by
  rcases yN 8 t ks hf with⟨k,rfl,hz,_⟩ | ⟨_,hq⟩
  ·rw[hz] at ha;cases ha
  ·rw[<-he];exact(hq _ _ hx hy).1
 show cond (P.eqGuardType P.depth t) none ((lG P 8 t (.agg xs) (.agg ys)).map AV.bool)=_;rw[hg,aA,this];rfl
end
mutual
def fq(r:Nat->Nat):SV->SV
 | .any=>.any
 | .a v=>.a v
 | .sl n e cs=>.sl n e cs
 | .im ks vs=>.im ks vs
 | .ip cs=>.ip cs
 | .ptr o off=>.ptr (r o) off
 | .map o=>.map (r o)
 | .buf o n e c=>.buf (r o) n e c
 | .sub o off n e c=>.sub (r o) off n e c
 | .e0 e=>.e0 e
 | .ag cs=>.ag (mG r cs)
 | .cx cs=>.cx (mG r cs)
 | .fn g a b=>.fn g (mG r a) (mG r b)
 | .iface t v=>.iface t (fq r v)
def mG(r:Nat->Nat):List SV->List SV
 | []=>[]
 | d::ds=>fq r d::mG r ds
end
def Rw(r:Nat->Nat):Fm->Fm
 | []=>[]
 | (d,v)::f=>(d,fq r v)::Rw r f
def qa(r:Nat->Nat):SO->SO
 | .cells cs=>.cells (mG r cs)
 | .map ks vs b=>.map ks (mG r vs) b
 | .iter m bs c pos=>.iter (fq r m) bs c pos
 | .oR ks vs bs c pos=>.oR ks vs bs c pos
 | .gone=>.gone
 | .loop c ls p f=>.loop c ls p (Rw r f)
 | .mA N=>.mA N
def j8(os:List Nat)(B i:Nat):Nat:=match os[i]? with
 | some o=>o
 | none=>B+(i-os.length)
mutual
def dD(B:Nat):SV->Bool
 | .ptr o _=>decide (o<B)
 | .map o=>decide (o<B)
 | .buf o _ _ _=>decide (o<B)
 | .sub o _ _ _ _=>decide (o<B)
 | .ag cs=>iy B cs
 | .cx cs=>iy B cs
 | .fn _ a b=>iy B a&&iy B b
 | .iface _ v=>dD B v
 | _=>true
def iy(B:Nat):List SV->Bool
 | []=>true
 | d::ds=>dD B d&&iy B ds
end
def Ff(B:Nat):Fm->Bool
 | []=>true
 | (_,v)::f=>dD B v&&Ff B f
def mK(B:Nat):SO->Bool
 | .cells cs=>iy B cs
 | .map _ vs _=>iy B vs
 | .iter m _ _ _=>dD B m
 | .oR _ _ _ _ _=>true
 | .gone=>true
 | .loop _ _ _ f=>Ff B f
 | .mA _=>true
def u9(B:Nat):List SO->Bool
 | []=>true
 | s::l=>mK B s&&u9 B l
def mV:List Nat->SV->SV
 | [],v=>v
 | k::ks,v=>mV ks (aP k v)
def oy:List Nat->Fm->Fm
 | [],f=>f
 | k::ks,f=>oy ks (dB k f)
def gg:List Nat->List SO->List SO
 | [],S=>S
 | k::ks,S=>gg ks (dh k S)
def gK:List SO->List Nat->List SO->List SO
 | S,[],ss=>S++ss
 | S,o::os,s::ss=>gK (S.set o s) os ss
 | S,_::_,[]=>S
section
variable {θ θ':Nat->Loc} {ρ ρ0 ρ':ko} {P:Program} {h0:En} {h h1:H} {S S' S0:List SO}
mutual
def VS.rn(r:Nat->Nat):∀{v:SV} {x:AV},VS θ ρ (fq r v) x↔VS (λp=>θ (r p)) ρ v x
 | .any,_=>by rw[fq,VS,VS]
 | .a v,x=>by rw[fq,VS,VS]
 | .sl n e cs,x=>by rw[fq,VS,VS]
 | .im ks vs,x=>by rw[fq,VS,VS]
 | .ip cs,x=>by rw[fq,VS,VS]
 | .ptr p _,_=>by rw[fq,VS,VS]
 | .map p,_=>by rw[fq,VS,VS]
 | .buf p _ _ _,_=>by rw[fq,VS,VS]
 | .sub p _ _ _ _,_=>by rw[fq,VS,VS]
 | .e0 _,_=>by rw[fq,VS,VS]
 | .ag cs,x=>by rw[fq,VS,VS];exact exists_congr λ_=>and_congr_right λ_=>cZ.rn r
 | .cx cs,x=>by rw[fq,VS,VS];exact exists_congr λ_=>and_congr_right λ_=>cZ.rn r
 | .fn g f c,x=>by rw[fq,VS,VS];exact exists_congr λ_=>exists_congr λ_=>and_congr_right λ_=>and_congr (cZ.rn r) (cZ.rn r)
 | .iface t v,x=>by rw[fq,VS,VS];exact exists_congr λ_=>and_congr_right λ_=>VS.rn r
def cZ.rn(r:Nat->Nat):∀{ds:List SV} {aS:List AV},cZ θ ρ (mG r ds) aS↔cZ (λp=>θ (r p)) ρ ds aS
 | [],aS=>by rw[mG,aZ,aZ]
 | d::ds,aS=>by rw[mG,aK,aK];exact exists_congr λ_=>exists_congr λ_=>and_congr_right λ_=>and_congr (VS.rn r) (cZ.rn r)
end
def xM(r:Nat->Nat):∀(f:Fm) (i:Nat),aO (Rw r f) i=fq r (aO f i)
 | [],i=>by rw[show aO [] i=.any from rfl,fq];rfl
 | (d,v)::f,i=>by
  show(if d=i then fq r v else aO (Rw r f) i)=fq r (if d=i then v else aO f i);rw[xM r f i];by_cases h:d=i
  ·rw[ut h,ut h]
  ·rw[v6 h,v6 h]
def Fh{B:Nat}:∀{f:Fm} {i:Nat},Ff B f=true->dD B (aO f i)=true
 | [],i,_=>by rw[show aO ([]:Fm) i=.any from rfl];simp[dD]
 | (d,v)::f,i,h=>by
  rw[Ff,ac] at h;show dD B (if d=i then v else aO f i)=true;by_cases e:d=i
  ·rw[ut e];exact h.1
  ·rw[v6 e];exact Fh h.2
def ny.rn(r:Nat->Nat){L:Loc}{so:SO}:ny θ ρ h L (qa r so)↔ny (λp=>θ (r p)) ρ h L so:=by
 cases so with
 | cells cs=>exact exists_congr λ_=>and_congr_right λ_=>and_congr_left λ_=>cZ.rn r
 | map ks vs b=>exact exists_congr λ_=>exists_congr λ_=>and_congr_right λ_=>and_congr_right λ_=>cZ.rn r
 | iter m bs c pos=>exact exists_congr λ_=>and_congr_left λ_=>VS.rn r
 | oR ks vs bs c pos=>exact Iff.rfl
 | gone=>exact Iff.rfl
 | loop c ls p f=>exact and_congr_right λ_=>and_congr_right λ_=>forall_congr' λi=>forall_congr' λ_=>by rw[xM];exact VS.rn r
 | mA N=>exact Iff.rfl
def fa{r:Nat->Nat}{so:SO}:qa r so≠.gone↔so≠.gone:=by
 cases so<;>simp[qa]
mutual
def VS.lE{B:Nat}(hθ:∀q,q<B->(θ' q).id=(θ q).id):∀{v:SV} {x:AV},dD B v=true->VS θ ρ v x->VS θ' ρ v x
 | .any,_,_,_=>by rw[VS];trivial
 | .a v,x,_,h=>by rw[VS] at h ⊢;exact h
 | .sl n e cs,x,_,h=>by rw[VS] at h ⊢;exact h
 | .im ks vs,x,_,h=>by rw[VS] at h ⊢;exact h
 | .ip cs,x,_,h=>by rw[VS] at h ⊢;exact h
 | .ptr p _,_,hn,h=>by rw[VS] at h ⊢;rw[dD] at hn;rw[hθ p (ww hn)];exact h
 | .map p,_,hn,h=>by rw[VS] at h ⊢;rw[dD] at hn;rw[hθ p (ww hn)];exact h
 | .buf p _ _ _,_,hn,h=>by rw[VS] at h ⊢;rw[dD] at hn;rw[hθ p (ww hn)];exact h
 | .sub p _ _ _ _,_,hn,h=>by rw[VS] at h ⊢;rw[dD] at hn;rw[hθ p (ww hn)];exact h
 | .e0 e,x,_,h=>by rw[VS] at h ⊢;exact h
 | .ag cs,x,hn,h=>by rw[VS] at h ⊢;rw[dD] at hn;obtain⟨aS,h1,h2⟩:=h;exact⟨aS,h1,cZ.lE hθ hn h2⟩
 | .cx cs,x,hn,h=>by rw[VS] at h ⊢;rw[dD] at hn;obtain⟨aS,h1,h2⟩:=h;exact⟨aS,h1,cZ.lE hθ hn h2⟩
 | .fn g f c,x,hn,h=>by
  rw[VS] at h ⊢;rw[dD,ac] at hn;obtain⟨xs,ys,h1,h2,h3⟩:=h;exact⟨xs,ys,h1,cZ.lE hθ hn.1 h2,cZ.lE hθ hn.2 h3⟩
 | .iface t v,x,hn,h=>by rw[VS] at h ⊢;rw[dD] at hn;obtain⟨y,h1,h2⟩:=h;exact⟨y,h1,VS.lE hθ hn h2⟩
def cZ.lE{B:Nat}(hθ:∀q,q<B->(θ' q).id=(θ q).id):∀{ds:List SV} {aS:List AV},iy B ds=true->cZ θ ρ ds aS->cZ θ' ρ ds aS
 | [],aS,_,h=>by rw[aZ] at h ⊢;exact h
 | d::ds,aS,hn,h=>by
  rw[aK] at h ⊢;rw[iy,ac] at hn;obtain⟨a,r,h1,h2,h3⟩:=h;exact⟨a,r,h1,VS.lE hθ hn.1 h2,cZ.lE hθ hn.2 h3⟩
end
def ny.lE{B:Nat}(hθ:∀q,q<B->(θ' q).id=(θ q).id){L:Loc}{so:SO}(hn:mK B so=true)(hx:ny θ ρ h L so):ny θ' ρ h L so:=by
 cases so with
 | cells cs=>obtain⟨aS,h1,h2,h3⟩:=hx;exact⟨aS,h1,h2.lE hθ hn,h3⟩
 | map ks vs b=>obtain⟨l,c,h1,h2,h3⟩:=hx;exact⟨l,c,h1,h2,h3.lE hθ hn⟩
 | iter m bs c pos=>obtain⟨j7,h1,h2⟩:=hx;exact⟨j7,h1.lE hθ hn,h2⟩
 | oR ks vs bs c pos=>exact hx
 | gone=>trivial
 | loop c ls p f=>
  obtain⟨h1,h2,h3⟩:=hx;exact⟨h1,h2,λi hi=>(h3 i hi).lE hθ (Fh hn)⟩
 | mA N=>exact hx
def Fi{B:Nat}:∀{S:List SO} {i:Nat} {so:SO},u9 B S=true->S[i]?=some so->mK B so=true
 | [],i,so,_,h=>by simp at h
 | s::l,0,so,hb,h=>by rw[u9,ac] at hb;simp only[ax,qr] at h;subst h;exact hb.1
 | s::l,i+1,so,hb,h=>by rw[u9,ac] at hb;exact Fi hb.2 (by simpa using h)
def HM(θ:Nat->Loc):List Nat->(Nat->Loc)->Nat->Loc
 | [],_=>θ
 | k::ks,θ'=>HM (gL θ k (θ' k)) ks θ'
def x7:∀{ks:List Nat} {θ:Nat->Loc} {p:Nat},(p∈ks\/θ p=θ' p)->HM θ ks θ' p=θ' p
 | [],θ,p,h=>by rcases h with h | h;(· simp at h);(· exact h)
 | k::ks,θ,p,h=>by
  rw[HM];by_cases e:p=k
  ·subst e;exact x7 (.inr (cH _ _ _))
  ·rcases h with h | h
   ·rcases t7 h with h | h
    ·exact un h e
    ·exact x7 (.inl h)
   ·exact x7 (.inr (by rw[bZ _ _ e];exact h))
def HN:∀{ks:List Nat} {θ:Nat->Loc} {p:Nat},p∉ks->HM θ ks θ' p=θ p
 | [],θ,p,h=>rfl
 | k::ks,θ,p,h=>by
  rw[HM,HN (λe=>h (b7 _ e)),bZ _ _ (λe=>h (by rw[e];exact b9))]
def F6:∀{ks:List Nat} {θ:Nat->Loc} {v:SV} {x:AV},VS θ ρ v x->VS (HM θ ks θ') ρ (mV ks v) x
 | [],θ,v,x,h=>h
 | k::ks,θ,v,x,h=>by
  rw[HM,mV];exact F6 (ja (θ':=gL θ k (θ' k)) (λp hp=>bZ _ _ hp) h)
def yH:∀(ks:List Nat) (f:Fm) (i:Nat),aO (oy ks f) i=mV ks (aO f i)
 | [],f,i=>rfl
 | k::ks,f,i=>by rw[oy,mV,yH ks,fD]
def js:∀(ks:List Nat) (S:List SO),(gg ks S).length=S.length
 | [],S=>rfl
 | k::ks,S=>by rw[gg,js ks];unfold dh;rw[a0]
def L7{f g:SV->SV}(so:SO):sQ f (sQ g so)=sQ (λv=>f (g v)) so:=by cases so<;>simp[sQ]
def ze:∀(ks:List Nat) (S:List SO) (p:Nat),(gg ks S)[p]?=(S[p]?).map (sQ (mV ks))
 | [],S,p=>by
  show S[p]?=_
  cases S[p]? with
  | none=>rfl
  | some s=>rw[m6];exact rc some (tT s).symm
 | k::ks,S,p=>by
  rw[gg,ze ks,rK]
  cases S[p]? with
  | none=>rfl
  | some s=>simp only[m6,L7];rfl
def CC:∀{os:List Nat} {S ss:List SO} (p:Nat),os.Nodup->(∀o∈os,o<S.length)->os.length<=ss.length->
 (∀i:Nat,os[i]?=some p->(gK S os ss)[p]?=ss[i]?)/\(p∉os->p<S.length->(gK S os ss)[p]?=S[p]?)/\(S.length<=p->(gK S os ss)[p]?=ss[os.length+(p-S.length)]?)
 | [],S,ss,p,_,_,_=>by
  refine⟨λi h=>by simp at h,λ_ hl=>?_,λhl=>?_⟩
  ·rw[gK,List.getElem?_append_left hl]
  ·rw[gK,ba hl,i5,bc]
 | o::os,S,[],p,_,_,hl=>by simp at hl
 | o::os,S,s::ss,p,hn,ho,hl=>by
  rw[List.nodup_cons] at hn;have ih:=CC (os:=os) (S:=S.set o s) (ss:=ss) p hn.2 (λx hx=>by rw[c6];exact ho x (b7 _ hx)) (by simpa using hl);have hol:=ho o b9;rw[c6] at ih;refine⟨λi h=>?_,λh1 h2=>?_,λh1=>?_⟩
  ·cases i with
   | zero=>
    simp only[ax,qr] at h;subst h;rw[gK,ih.2.1 hn.1 hol,ay hol];rfl
   | succ i=>
    simp only[ap] at h;rw[gK,ih.1 i h];rfl
  ·rw[gK,ih.2.1 (λe=>h1 (b7 _ e)) h2,a3 (λe=>h1 (by rw[e];exact b9))]
  ·rw[gK,ih.2.2 h1,i7,show os.length+1+(p-S.length)=os.length+(p-S.length)+1 by omega,ap]
def SC(P:Program)(g:FuncId)(args:List SV)(S0:List SO)(mv:List Nat)(Q:SV->List SO->Prop):Prop:=
 ∀(E:En) θ ρ h avs,E.h={ h with low:=h.next }->RS θ ρ ρ E E.h S0->cZ θ ρ args avs->
  ee P (.func g) avs h (λv h'=>∃r S' θ' ρ' h1,Q r S'/\h'={ h1 with low:=hY h.low h1.low }/\RS θ' ρ ρ' E h1 S'/\VS θ' ρ' r v/\S0.length<=S'.length/\∀i,i<S0.length->i∉mv->(θ' i).id=(θ i).id)
end
end
end Go.Ev
