/- Lemmas of this claim, each with its conditions. -/
import Derived.Test.YtchdmmkclcnmnaaGreatA9
set_option linter.all false
open Option (bind_eq_some_iff)
open Nat (ble beq)
open Option renaming bind_some -> aa, map_some -> al
open Bool renaming and_self -> ac
open List renaming map_cons -> ad
open Nat renaming beq_refl -> aj
namespace Go.Ev
noncomputable section
def Ap:AV->SV
 | .agg cs=>.ag (cs.map .a)
 | v=>.a v
def cR:SV->Option (List SV)
 | .any=>none
 | .ag cs=>some cs
 | .a (.agg cs)=>some (cs.map .a)
 | v=>some [v]
def ec:SV->Bool
 | .any=>false
 | .a v=>jZ v
 | .ag _=>false
 | .bE _=>false
 | _=>true
def bf(o:Nat)(v:SV):SV:=cond (names o v) .any v
def dJ(o:Nat)(f:Fm):Fm:=f.map λp=>(p.1,bf o p.2)
def bQ(o:Nat):SO->SO
 | .cells cs=>.cells (cs.map (bf o))
 | .map ks vs b=>.map ks (vs.map (bf o)) b
 | .iter m bs c pos=>.iter (bf o m) bs c pos
 | .oL ks vs bs c pos=>.oL ks vs bs c pos
 | .gone=>.gone
 | .loop c ls p f=>.loop c ls p (dJ o f)
 | .ox N=>.ox N
def eF(f:Fm):Operand->Option SV
 | .tmp i=>if i<1000000 then some (aX f i) else none
 | .const v=>(lE lH v).map Ap
 | .func g=>some (.fn g [] [])
 | .global _=>none
def mY(f:Fm):List Operand->Option (List SV)
 | []=>some []
 | x::l=>(eF f x).bind λa=>(mY f l).map λb=>a::b
def j9(f:Fm):List (Nat×Operand)->Option (List (Nat×SV))
 | []=>some []
 | (i,x)::l=>(eF f x).bind λa=>(j9 f l).map λb=>(i,a)::b
def uk(f:Fm):Option Operand->Option (Option AV)
 | none=>some none
 | some x=>match eF f x with
  | some (.a v)=>some (some v)
  | _=>none
def qh{α:Type}(p:Prop)[Decidable p](x:Option α):Option α:=if p then x else none
def bT(P:Program)(t:TypeId):Option (Nat×Bool):=(qy P t).bind λb=>(cI P t).map λn=>(n,b)
def aT(P:Program)(s:TypeId)(f:Nat):Option (Nat×TypeId×Nat):=match P.underlying s with
 | some (.struct fs)=>cond (fs.toList.all λf=>(cI P f.type).isSome) ((fs[f]?).bind λfd=>(cI P fd.type).map λn=>(fd.offset,fd.type,n)) none
 | _=>none
def PN(P:Program)(t:TypeId):Option (Option Nat):=match P.underlying t with
 | some (.struct fs)=>cond (fs.toList.all λf=>(cI P f.type).isSome) (some none) none
 | some (.array _ e)=>(cI P e).map some
 | _=>none
def Il(P:Program)(t:TypeId):Option (TypeId×Nat):=match P.underlying t with
 | some (.slice e)=>(cI P e).map λs=>(e,s)
 | _=>none
def QZ(P:Program)(t:TypeId):Option (Nat×TypeId×Nat):=match P.underlying t with
 | some (.array n e)=>(cI P e).map λs=>(n,e,s)
 | _=>none
inductive TK where
 | str | sl | map | other
def iM(P:Program)(t:TypeId):TK:=match P.underlying t with
 | some .string=>.str
 | some (.slice _)=>.sl
 | some (.map _ _)=>.map
 | _=>.other
def tU(P:Program)(t:TypeId)(cs:List SV)(off:Nat):Option SV:=(bT P t).bind λq=>match q.2 with
 | true=>qh (off+q.1<=cs.length) (some (.ag ((cs.drop off).take q.1)))
 | false=>cs[off]?
def ql(place:Nat->Option (Nat×Nat))(cells:List SV):List (Nat×SV)->Option (List SV)
 | []=>some cells
 | (i,v)::rest=>match place i with
  | none=>none
  | some (off,size)=>(cR v).bind λcs=>
   qh (cs.length=size/\off+size<=cells.length) (ql place (cells.take off++(cs++cells.drop (off+size))) rest)
def yk(P:Program)(t:TypeId)(parts:List (Nat×SV)):Option SV:=
 (du P t).bind λz=>(PN P t).bind λq=>match q with
  | none=>(ql (λi=>(aT P t i).map λq=>(q.1,q.2.2)) (z.cells.map .a) parts).map .ag
  | some s=>(ql (λi=>some (i*s,s)) (z.cells.map .a) parts).map .ag
def ld(P:Program)(t:TypeId)(len:Nat)(parts:List (Nat×SV)):Option (Nat×List SV):=
 (Il P t).bind λq=>(du P q.1).bind λz=>
  qh (len*q.2<=16777216/\z.cells.length=q.2/\q.2≠0)
   ((ql (λi=>some (i*q.2,q.2)) ((rep z.cells len).map .a) parts).map λcs=>(q.2,cs))
mutual
def cG:SV->Option AV
 | .a v=>some v
 | .ag cs=>(gY cs).map .agg
 | .iface t v=>(cG v).map (.iface t)
 | _=>none
def gY:List SV->Option (List AV)
 | []=>some []
 | d::ds=>(cG d).bind λa=>(gY ds).map λb=>a::b
end
def IM:SV->Option Nat
 | .a v=>di v
 | _=>none
def qn(P:Program)(kt:TypeId)(k:AV):List AV->Nat->Option (Option Nat)
 | [],_=>some none
 | e::es,i=>match lA P 4 kt k e with
  | some true=>some (some i)
  | some false=>qn P kt k es (i+1)
  | none=>none
def sy(S:List SO):SV->Option (List AV×List SV)
 | .map o=>match S[o]? with
  | some (.map ks vs _)=>some (ks,vs)
  | _=>none
 | .im ks vs=>some (ks,vs)
 | .a (.map none)=>some ([],[])
 | _=>none
def dW(P:Program)(S:List SO)(t:TypeId)(x k:SV)(ok:Bool):Option SV:=
 (cW P t).bind λ(kt,et)=>(cG k).bind λk=>cond (tG P kt k)
  ((sy S x).bind λ(ks,vs)=>(qn P kt k ks 0).bind λr=>
   let v:Option (SV×Bool):=match r with
    | some i=>(vs[i]?).map λe=>(e,true)
    | none=>(du P et).map λz=>(Ap z,false)
   v.map λ(v,b)=>cond ok (.bE [v,.a (.bool b)]) v) none
def fv(P:Program)(S:List SO)(t:TypeId)(x k v:SV):Option (List SO):=
 (cW P t).bind λ(kt,_)=>(cG k).bind λk=>cond (tG P kt k)
  (
   match x with
   | .map o=>match S[o]? with
    | some (.map ks vs b)=>(qn P kt k ks 0).bind λr=>match r with
     | some i=>(ks[i]?).bind λk0=>cond (stays k k0) (some (S.set o (.map (ks.set i k) (vs.set i v) b))) none
     | none=>some (S.set o (.map (ks++[k]) (vs++[v]) (b.map λp=>(p.1++[p.2],p.2+1))))
    | _=>none
   | _=>none) none
def LA(P:Program)(S:List SO)(t:TypeId)(x k:SV):Option (List SO):=
 (cW P t).bind λ(kt,_)=>(cG k).bind λk=>cond (tG P kt k)
  (
   match x with
   | .map o=>match S[o]? with
    | some (.map ks vs b)=>(qn P kt k ks 0).map λr=>match r with
     | some i=>S.set o (.map (ks.eraseIdx i) (vs.eraseIdx i) (b.map λp=>(p.1.eraseIdx i,p.2)))
     | none=>S
    | _=>none
   | _=>none) none
def pX(P:Program)(S:List SO)(t:TypeId)(x:SV):Option Nat:=match iM P t,x with
 | .str,.a (.str s)=>some s.length
 | .sl,.sl n _ _=>some n
 | .sl,.buf _ n _ _=>some n
 | .sl,.a (.slice none n _ _)=>some n
 | .map,x=>(sy S x).map λe=>e.1.length
 | .sl,.sub _ _ n _ _=>some n
 | .sl,.e0 _=>some 0
 | _,_=>none
def nM(S:List SO)(s:Nat):SV->Option (Nat×List SV)
 | .sl n e cs=>qh (e=s) (some (n,cs))
 | .buf o n e _=>match S[o]? with
  | some (.cells cs)=>qh (e=s/\n*s<=cs.length) (some (n,cs.take (n*s)))
  | _=>none
 | .a (.slice none 0 0 (some 0))=>some (0,[])
 | .sub o off n e _=>match S[o]? with
  | some (.cells cs)=>qh (e=s/\off+n*s<=cs.length) (some (n,(cs.drop off).take (n*s)))
  | _=>none
 | .e0 _=>some (0,[])
 | _=>none
def dB(o:Nat)(S:List SO):List SO:=S.map (bQ o)
def gO(S:List SO)(so:SO):List SO:=dB S.length S++[bQ S.length so]
def pe(P:Program)(e:TypeId):Bool:=match P.info? e with
 | some i=>ble i.bytes 10000
 | none=>false
def E1(S:List SO):SV->Option (SV×List SO×Option Nat)
 | .a (.slice none 0 0 (some 0))=>some (.a (.slice none 0 0 (some 0)),S,none)
 | .buf o n e c=>qh (n<=1000000) (some (.buf o n e c,S,none))
 | .e0 e=>some (.e0 e,S,none)
 | _=>none
def AY(S:List SO)(s:Nat)(x:SV)(p:Nat×List SV):Option (SV×List SO×Option Nat):=match x with
 | .a (.slice none 0 0 (some 0))=>some (.buf S.length p.1 s none,gO S (.cells p.2),some S.length)
 | .buf o n es none=>match S[o]? with
  | some (.cells cs)=>qh (es=s/\n<=1000000/\n*es<=cs.length)
   (some (.buf o (n+p.1) es none,(dB o S).set o (bQ o (.cells (cs.take (n*es)++p.2))),some o))
  | _=>none
 | .e0 e=>qh (e=s) (some (.buf S.length p.1 s none,gO S (.cells p.2),some S.length))
 | .buf o n es (some c)=>match S[o]? with
  | some (.cells cs)=>qh (es=s/\n<=1000000/\n*es<=cs.length/\c<n+p.1)
   (some (.buf S.length (n+p.1) es none,gO S (.cells (cs.take (n*es)++p.2)),some S.length))
  | _=>none
 | _=>none
def isInt(P:Program)(t:TypeId):Bool:=match P.underlying t with
 | some (.int _)=>true
 | _=>false
def tN(P:Program)(S:List SO)(xt:TypeId)(s:Nat)(z:AV)(y:SV):Option (Nat×List SV):=match iM P xt with
 | .sl=>nM S s y
 | .other=>cond (isInt P xt) ((IM y).bind λn=>qh (n<=1000000) (some (n,(rep z.cells n).map .a))) none
 | _=>none
def s7(P:Program)(S:List SO)(st xt:TypeId)(x y:SV):Option (SV×List SO×Option Nat):=
 (Il P st).bind λq=>(du P q.1).bind λz=>qh (z.cells.length=q.2/\q.2≠0/\pe P q.1=true)
  ((tN P S xt q.2 z y).bind λp=>if p.1=0 then E1 S x else qh (p.1<=1000000/\p.2.all ec=true) (AY S q.2 x p))
def xu(isMax:Bool):SV->List SV->Option SV
 | x,[]=>some x
 | .a x,.a y::l=>(sH isMax x y).bind λz=>xu isMax (.a z) l
 | _,_=>none
def Q2:SV->Option (Nat×Nat×Nat×Nat)
 | .buf o n e _=>some (o,0,n,e)
 | .sub o off n e _=>some (o,off,n,e)
 | _=>none
def Kl(S:List SO)(s o off des:Nat)(rows:List SV)(n:Nat):Option (SV×List SO×Option Nat):=
 if n=0 then some (.a (.int .i64 0),S,none) else match S[o]? with
  | some (.cells cs)=>qh (des=s/\off+n*s<=cs.length/\n*s<=rows.length/\(rows.take (n*s)).all ec=true)
   (some (.a (.int .i64 (n:Nat)),S.set o (.cells (cs.take off++(rows.take (n*s)++cs.drop (off+n*s)))),none))
  | _=>none
def Fx(P:Program)(S:List SO)(t:TypeId)(x y:SV):Option (SV×List SO×Option Nat):=(Il P t).bind λq=>(Q2 x).bind λ(o,off,dl,des)=>(nM S q.2 y).bind λp=>
 Kl S q.2 o off des p.2 (Nat.min p.1 dl)
def yr(P:Program)(S:List SO)(t:TypeId)(x:SV):Option (SV×List SO×Option Nat):=(Il P t).bind λq=>(du P q.1).bind λz=>(Q2 x).bind λ(o,off,n,es)=>
 if n=0 then some (.a kn,S,none) else match S[o]? with
  | some (.cells cs)=>qh (es=q.2/\z.cells.length=q.2/\off+n*q.2<=cs.length/\(rep z.cells n).all jZ=true)
   (some (.a kn,S.set o (.cells (cs.take off++((rep z.cells n).map .a++cs.drop (off+n*q.2)))),none))
  | _=>none
def yn:SV->Option Nat
 | .a (.slice none 0 0 (some 0))=>some 0
 | .buf _ _ _ (some c)=>some c
 | .sub _ _ _ _ (some c)=>some c
 | .e0 _=>some 0
 | _=>none
def dK(P:Program)(S:List SO)(b:Builtin)(ats:List TypeId)(xs:List SV):Option (SV×List SO×Option Nat):=match b,ats,xs with
 | .append,st::xt::_,[x,y]=>s7 P S st xt x y
 | .len,t::_,x::_=>(pX P S t x).map λ(n:Nat)=>((SV.a (.int .i64 (n:Int)),S,none):SV×List SO×Option Nat)
 | .min,_,x::l=>(xu false x l).map λv=>(v,S,none)
 | .max,_,x::l=>(xu true x l).map λv=>(v,S,none)
 | .delete,t::_,x::k::_=>(LA P S t x k).map λS=>(.a kn,S,none)
 | .copy,dt::_,[x,y]=>Fx P S dt x y
 | .clear,t::_,[x]=>yr P S t x
 | .cap,t::_,[x]=>(Il P t).bind λ_=>(yn x).map λ(c:Nat)=>((SV.a (.int .i64 (c:Int)),S,none):SV×List SO×Option Nat)
 | _,_,_=>none
def Gx:Option SV->Option SV->Option SV->Option SV
 | some (.a (.bool z)),some x,some y=>some (cond z x y)
 | _,_,_=>none
def tI(P:Program)(S:List SO)(tt:TypeId):SV->Option SV
 | .ptr o off=>match S[o]? with
  | some (.cells cs)=>tU P tt cs off
  | _=>none
 | .ip cs=>tU P tt cs 0
 | _=>none
def Am(P:Program)(S:List SO)(tt:TypeId)(a x:SV):Option (List SO):=match a with
 | .ptr o off=>match S[o]? with
  | some (.cells cs)=>(bT P tt).bind λq=>(cR x).bind λvs=>
   qh (vs.length=q.1/\off+q.1<=cs.length/\vs.all ec=true) (some (S.set o (.cells (cs.take off++(vs++cs.drop (off+q.1))))))
  | _=>none
 | _=>none
def cN(P:Program):SV->Option SV
 | .ptr o off=>some (.ptr o off)
 | .ip cs=>some (.ip cs)
 | .fn g a b=>some (.fn g a b)
 | .sl n e cs=>some (.sl n e cs)
 | .buf o n e c=>some (.buf o n e c)
 | .sub o off n e c=>some (.sub o off n e c)
 | .e0 e=>some (.e0 e)
 | .a (.fn (.method nm) [.iface t v] ys)=>(jn P t nm).map λ_=>.a (.fn (.method nm) [.iface t v] ys)
 | _=>none
def mH(P:Program)(s:TypeId)(x:SV)(f:Nat):Option SV:=(aT P s f).bind λq=>qh (q.2.2≠0) (match x with
 | .ptr o off=>some (.ptr o (off+q.1))
 | .ip cs=>qh (q.1<=cs.length) (some (.ip (cs.drop q.1)))
 | _=>none)
def vk(P:Program)(s:TypeId)(x:SV)(f:Nat):Option SV:=match x with
 | .ag cs=>(aT P s f).bind λq=>tU P q.2.1 cs q.1
 | _=>none
def mL(P:Program)(t:TypeId)(x:SV)(i:SV):Option SV:=(IM i).bind λi=>match QZ P t with
 | some q=>qh (i<q.1) (match x with
  | .ptr o off=>some (.ptr o (off+i*q.2.2))
  | .ip cs=>qh (i*q.2.2<=cs.length) (some (.ip (cs.drop (i*q.2.2))))
  | _=>none)
 | none=>(Il P t).bind λq=>match x with
  | .sl n es cs=>qh (i<n/\q.2=es) (some (.ip ((cs.drop (i*q.2)).take q.2)))
  | .buf o n es _=>qh (i<n/\q.2=es) (some (.ptr o (i*q.2)))
  | .sub o off n es _=>qh (i<n/\q.2=es) (some (.ptr o (off+i*q.2)))
  | _=>none
def yQ(P:Program)(t:TypeId)(x:SV)(i:SV):Option SV:=(IM i).bind λi=>match x with
 | .ag cs=>(QZ P t).bind λq=>qh (i<q.1) (tU P q.2.1 cs (i*q.2.2))
 | .a (.str s)=>match iM P t with
  | .str=>(s[i]?).map λb=>.a (.int .u8 (Int.ofNat b))
  | _=>none
 | _=>none
def gl(P:Program)(t:TypeId)(x:SV)(lo hi mx:Option AV):Option SV:=match iM P t,x with
 | .str,.a (.str s)=>match mx with
  | some _=>none
  | none=>(cQ s.length (some s.length) lo hi none).map λ(l,hh,_)=>.a (.str ((s.drop l).take (hh-l)))
 | .sl,.sl n es cs=>match mx with
  | some m=>(Il P t).bind λq=>qh (lo=none/\hi.bind di=some 0/\di m=some 0/\q.2=es) (some (.e0 q.2))
  | none=>(Il P t).bind λq=>(cQ n none lo hi none).bind λ(l,hh,_)=>qh (q.2=es) (some (.sl (hh-l) q.2 ((cs.drop (l*q.2)).take ((hh-l)*q.2))))
 | .sl,.buf o n es c=>match mx with
  | some _=>none
  | none=>(Il P t).bind λq=>(cQ n c lo hi none).bind λ(l,hh,m)=>qh (q.2=es) (some (match lo with
   | none=>.buf o (hh-l) q.2 (aU m l)
   | some _=>.sub o (l*q.2) (hh-l) q.2 (aU m l)))
 | .sl,.sub o off n es c=>match mx with
  | some _=>none
  | none=>(Il P t).bind λq=>(cQ n c lo hi none).bind λ(l,hh,m)=>qh (q.2=es) (some (.sub o (off+l*q.2) (hh-l) q.2 (aU m l)))
 | .sl,.a (.slice none 0 0 (some 0))=>(Il P t).bind λ_=>(cQ 0 (some 0) lo hi mx).map λ_=>.a (.slice none 0 0 (some 0))
 | .sl,.e0 e=>(Il P t).bind λq=>(cQ 0 (some 0) lo hi mx).bind λ(l,hh,m)=>qh (l=0/\hh=0/\m=some 0/\q.2=e) (some (.e0 e))
 | _,_=>none
def Kv(P:Program)(t:TypeId):Bool:=match P.underlying t with
 | some (.interface _)=>false
 | some _=>true
 | none=>false
def dA(P:Program)(f:Fm)(S:List SO)(op:Op):Option (SV×List SO×Option Nat):=match op with
 | .move x=>(eF f x).map λv=>(v,S,none)
 | .assign x=>(eF f x).map λv=>(v,S,none)
 | .pick c a b=>(Gx (eF f c) (eF f a) (eF f b)).map λv=>(v,S,none)
 | .alloc e=>(du P e).map λz=>(.ptr S.length 0,gO S (.cells (z.cells.map .a)),some S.length)
 | .box _ x=>(eF f x).bind λv=>(cR v).map λcs=>(.ptr S.length 0,gO S (.cells cs),some S.length)
 | .build tt ps=>(j9 f ps.toList).bind λl=>(yk P tt l).map λv=>(v,S,none)
 | .buildSlice tt n ps=>(j9 f ps.toList).bind λl=>(ld P tt n l).map λq=>(.buf S.length n q.1 (some n),gO S (.cells q.2),some S.length)
 | .makeMap _ none=>some (.map S.length,gO S (.map [] [] none),some S.length)
 | .makeSlice tt l c=>match eF f l,eF f c with
  | some (.a l),some (.a c)=>(ic P tt l c).map λq=>(.buf S.length q.1 q.2.1 (some q.2.2.1),gO S (.cells (q.2.2.2.map .a)),some S.length)
  | _,_=>none
 | .load tt a=>(eF f a).bind λa=>(tI P S tt a).map λv=>(v,S,none)
 | .store tt a x=>(eF f a).bind λa=>(eF f x).bind λx=>(Am P S tt a x).map λS=>(.a kn,S,none)
 | .nilCheck x=>(eF f x).bind λx=>(cN P x).map λv=>(v,S,none)
 | .binOp op t x y _=>(eF f x).bind λx=>(eF f y).bind λy=>(cG x).bind λx=>(cG y).bind λy=>(cS P op t x y).map λv=>(.a v,S,none)
 | .unOp op _ x=>(eF f x).bind λx=>(cG x).bind λx=>(R0 op x).map λv=>(.a v,S,none)
 | .convert s d x=>(eF f x).bind λx=>(cG x).bind λx=>(mE P s d x).map λv=>(.a v,S,none)
 | .makeInterface t x=>cond (Kv P t) ((eF f x).map λv=>(.iface t v,S,none)) none
 | .makeFunc (.func g) first cap=>(mY f first.toList).bind λa=>(mY f cap.toList).map λb=>(.fn g a b,S,none)
 | .slice tt x lo hi mx=>(eF f x).bind λx=>(uk f lo).bind λlo=>(uk f hi).bind λhi=>(uk f mx).bind λmx=>(gl P tt x lo hi mx).map λv=>(v,S,none)
 | .fieldAddr s x fl=>(eF f x).bind λx=>(mH P s x fl).map λv=>(v,S,none)
 | .field s x fl=>(eF f x).bind λx=>(vk P s x fl).map λv=>(v,S,none)
 | .indexAddr t x i=>(eF f x).bind λx=>(eF f i).bind λi=>(mL P t x i).map λv=>(v,S,none)
 | .index t x i=>(eF f x).bind λx=>(eF f i).bind λi=>(yQ P t x i).map λv=>(v,S,none)
 | .lookup t x k ok=>(eF f x).bind λx=>(eF f k).bind λk=>(dW P S t x k ok).map λv=>(v,S,none)
 | .mapUpdate t m k x=>(eF f m).bind λm=>(eF f k).bind λk=>(eF f x).bind λx=>(fv P S t m k x).map λS=>(.a kn,S,none)
 | .insert t m k x=>(eF f m).bind λm=>(eF f k).bind λk=>(eF f x).bind λx=>(fv P S t m k x).map λS=>(.a kn,S,none)
 | .extract x i=>match eF f x with
  | some (.bE vs)=>(vs[i]?).map λv=>(v,S,none)
  | _=>none
 | .call { callee:=.builtin b,args:=aS,argTypes:=ats }=>(mY f aS.toList).bind λxs=>dK P S b ats.toList xs
 | .makeFunc (.method nm) first cap=>(mY f first.toList).bind λa=>(gY a).bind λa=>(mY f cap.toList).bind λb=>(gY b).map λb=>(.a (.fn (.method nm) a b),S,none)
 | _=>none
def tH(k:Option Nat)(v:SV):SV:=match k with
 | none=>v
 | some o=>bf o v
def jS(f:Fm)(kill:Option Nat):Fm:=match kill with
 | none=>f
 | some o=>dJ o f
def xn(f:Fm)(kill:Option Nat)(dst:Option Tmp)(v:SV):Fm:=match dst with
 | none=>jS f kill
 | some d=>(d,v)::jS f kill
section
variable {θ:Nat->Loc} {ρ:kg} {P:Program}
theorem c7.a:∀(aS:List AV),c7 θ ρ (aS.map .a) aS
 | []=>by rw[List.map_nil,aQ]
 | a::aS=>by rw[ad,aK];exact⟨a,aS,rfl,by rw[VS],c7.a aS⟩
def Aq(v:AV):VS θ ρ (Ap v) v:=by
 unfold Ap;split
 ·rw[VS];exact⟨_,rfl,c7.a _⟩
 ·rw[VS]
def bG{f:Fm}{af:Nat->AV}{n:Nat}{wv:Nat->AV}(hF:FR θ ρ (aX f) af n wv){x:Operand}{v:SV}(h:eF f x=some v):∃a,ev (dj af n) x=some a/\VS θ ρ v a:=by
 cases x with
 | tmp i=>
  simp only[eF] at h
  have hlim:i<1000000:=by
   apply Decidable.byContradiction;intro hn;rw[un hn] at h;cases h
  rw[ul hlim] at h;cases h;have:=hF.v i;by_cases hi:i<n
  ·rw[ul hi] at this;exact⟨_,Rw hi,this⟩
  ·rw[un hi,hF.u i hlim] at this
   exact⟨kn,by
    have:(dj af n).get i=none:=As af n i (Nat.le_of_not_lt hi)
    simp only[ev,this],this⟩
 | const c=>
  simp only[eF] at h;obtain⟨a,ha,rfl⟩:=aq h;exact⟨a,ha,Aq a⟩
 | func g=>
  simp only[eF,Option.some.injEq] at h;subst h;exact⟨_,P1,by rw[VS];exact⟨[],[],rfl,by rw[aQ],by rw[aQ]⟩⟩
 | global g=>simp[eF] at h
def kZ{f:Fm}{af:Nat->AV}{n:Nat}{wv:Nat->AV}(hF:FR θ ρ (aX f) af n wv):∀{l:List Operand} {vs:List SV},mY f l=some vs->∃aS,xm (dj af n) l=some aS/\c7 θ ρ vs aS
 | [],vs,h=>by
  simp only[mY,Option.some.injEq] at h;subst h;exact⟨[],rfl,by rw[aQ]⟩
 | x::l,vs,h=>by
  rw[mY] at h;obtain⟨v,hv,h⟩:=bind_eq_some_iff.1 h;obtain⟨ws,hw,rfl⟩:=aq h;obtain⟨a,ha,ka⟩:=bG hF hv;obtain⟨aS,hs,ks⟩:=kZ hF hw;exact⟨a::aS,by rw[NK,ha,hs];rfl,by rw[aK];exact⟨a,aS,rfl,ka,ks⟩⟩
def Ss(θ:Nat->Loc)(ρ:kg):List (Nat×SV)->List (Nat×AV)->Prop
 | [],aS=>aS=[]
 | (i,v)::l,aS=>∃a r,aS=(i,a)::r/\VS θ ρ v a/\Ss θ ρ l r
def vR{f:Fm}{af:Nat->AV}{n:Nat}{wv:Nat->AV}(hF:FR θ ρ (aX f) af n wv):∀{l:List (Nat×Operand)} {vs:List (Nat×SV)},j9 f l=some vs->∃aS,lL (dj af n) l=some aS/\Ss θ ρ vs aS
 | [],vs,h=>by
  simp only[j9,Option.some.injEq] at h;subst h;exact⟨[],rfl,rfl⟩
 | (i,x)::l,vs,h=>by
  rw[j9] at h;obtain⟨v,hv,h⟩:=bind_eq_some_iff.1 h;obtain⟨ws,hw,rfl⟩:=aq h;obtain⟨a,ha,ka⟩:=bG hF hv;obtain⟨aS,hs,ks⟩:=vR hF hw;exact⟨(i,a)::aS,by rw[Gw,ha,hs];rfl,a,aS,rfl,ka,ks⟩
def D2{f:Fm}{af:Nat->AV}{n:Nat}{wv:Nat->AV}(hF:FR θ ρ (aX f) af n wv){o:Option Operand}{v:Option AV}(h:uk f o=some v):NJ (dj af n) o=some v:=by
 cases o with
 | none=>simp only[uk,Option.some.injEq] at h;subst h;rfl
 | some x=>
  simp only[uk] at h;split at h
  ·rename_i w hw;cases h;obtain⟨a,ha,ka⟩:=bG hF hw;rw[VS] at ka;subst ka;simp only[NJ,ha,al]
  ·cases h
def cells_one{v:AV}(h:∀cs,v≠.agg cs):v.cells=[v]:=by
 cases v<;>first | rfl | exact t8 rfl (h _)
def uZ{v:SV}{x:AV}(hv:VS θ ρ v x){cs:List SV}(h:cR v=some cs):c7 θ ρ cs x.cells:=by
 have one:∀{w:SV},VS θ ρ w x->(∀cs,x≠.agg cs)->c7 θ ρ [w] x.cells:=by
  intro w hw hx;rw[cells_one hx,aK];exact⟨x,[],rfl,hw,by rw[aQ]⟩
 cases v with
 | any=>simp[cR] at h
 | a v=>
  have hv':=hv;rw[VS] at hv;subst hv
  cases x with
  | agg cs'=>simp only[cR,Option.some.injEq] at h;subst h;exact c7.a _
  | _=>simp only[cR,Option.some.injEq] at h;subst h;exact one hv' (λ_ h=>by cases h)
 | ag cs'=>
  simp only[cR,Option.some.injEq] at h;subst h;rw[VS] at hv;obtain⟨aS,rfl,h2⟩:=hv;exact h2
 | sl n e cs'=>
  simp only[cR,Option.some.injEq] at h;subst h;refine one hv ?_;rw[VS,GS] at hv
  rcases hv with⟨_,_,o,e',c,rfl,_,_⟩ | ⟨id,off,cap,row,rfl,_⟩<;>exact λ_ h=>by cases h
 | im ks vs=>
  simp only[cR,Option.some.injEq] at h;subst h;refine one hv ?_;rw[VS,GS] at hv;obtain⟨id,l,c,rfl,_⟩:=hv
  exact λ_ h=>by cases h
 | ip cs'=>
  simp only[cR,Option.some.injEq] at h;subst h;refine one hv ?_;rw[VS,GS] at hv;obtain⟨id,off,row,r,rfl,_⟩:=hv
  exact λ_ h=>by cases h
 | ptr o off=>
  simp only[cR,Option.some.injEq] at h;subst h;refine one hv ?_
  rw[VS] at hv;subst hv;exact λ_ h=>by cases h
 | map o=>
  simp only[cR,Option.some.injEq] at h;subst h;refine one hv ?_
  rw[VS] at hv;subst hv;exact λ_ h=>by cases h
 | buf o n e c=>
  simp only[cR,Option.some.injEq] at h;subst h;refine one hv ?_
  rw[VS] at hv;subst hv;exact λ_ h=>by cases h
 | sub o off n e c=>
  simp only[cR,Option.some.injEq] at h;subst h;refine one hv ?_
  rw[VS] at hv;subst hv;exact λ_ h=>by cases h
 | e0 e=>
  simp only[cR,Option.some.injEq] at h;subst h;refine one hv ?_
  rw[VS] at hv;obtain⟨o,e',rfl,_⟩:=hv;exact λ_ h=>by cases h
 | bE vs=>
  simp only[cR,Option.some.injEq] at h;subst h;refine one hv ?_
  rw[VS] at hv;obtain⟨aS,rfl,_⟩:=hv;exact λ_ h=>by cases h
 | fn g a b=>
  simp only[cR,Option.some.injEq] at h;subst h;refine one hv ?_
  rw[VS] at hv;obtain⟨aS,bs,rfl,_⟩:=hv;exact λ_ h=>by cases h
 | iface t v=>
  simp only[cR,Option.some.injEq] at h;subst h;refine one hv ?_
  rw[VS] at hv;obtain⟨y,rfl,_⟩:=hv;exact λ_ h=>by cases h
def Qq{v:SV}{x:AV}(hv:VS θ ρ v x)(h:ec v=true):jZ x=true:=by
 cases v with
 | any=>simp[ec] at h
 | a v=>rw[VS] at hv;subst hv;exact h
 | ag cs=>simp[ec] at h
 | bE cs=>simp[ec] at h
 | sl n e cs=>rw[VS,GS] at hv;rcases hv with⟨_,_,o,e',c,rfl,_,_⟩ | ⟨id,off,cap,row,rfl,_⟩<;>rfl
 | im ks vs=>rw[VS,GS] at hv;obtain⟨id,l,c,rfl,_⟩:=hv;rfl
 | ip cs=>rw[VS,GS] at hv;obtain⟨id,off,row,r,rfl,_⟩:=hv;rfl
 | ptr o off=>rw[VS] at hv;subst hv;rfl
 | map o=>rw[VS] at hv;subst hv;rfl
 | buf o n e c=>rw[VS] at hv;subst hv;rfl
 | sub o off n e c=>rw[VS] at hv;subst hv;rfl
 | e0 e=>rw[VS] at hv;obtain⟨o,e',rfl,_⟩:=hv;rfl
 | fn g a b=>rw[VS] at hv;obtain⟨aS,bs,rfl,_⟩:=hv;rfl
 | iface t v=>rw[VS] at hv;obtain⟨y,rfl,_⟩:=hv;rfl
def mn:∀{vs:List SV} {xs:List AV},c7 θ ρ vs xs->vs.all ec=true->xs.all jZ=true
 | [],xs,hv,_=>by rw[aQ] at hv;subst hv;rfl
 | d::ds,xs,hv,h=>by
  rw[aK] at hv;obtain⟨a,r,rfl,h1,h2⟩:=hv;rw[List.all_cons,Bool.and_eq_true] at h ⊢;exact⟨Qq h1 h.1,mn h2 h.2⟩
def cy{α:Type}{p:Prop}[Decidable p]{x:Option α}{y:α}(h:qh p x=some y):p/\x=some y:=by
 unfold qh at h;split at h
 ·rename_i hp;exact⟨hp,h⟩
 ·cases h
def uI{t:TypeId}{q:Nat×Bool}(h:bT P t=some q):qy P t=some q.2/\cI P t=some q.1:=by
 unfold bT at h;obtain⟨b,hb,h⟩:=bind_eq_some_iff.1 h;obtain⟨n,hn,rfl⟩:=aq h;exact⟨hb,hn⟩
def vl{s:TypeId}{f:Nat}{q:Nat×TypeId×Nat}(h:aT P s f=some q):∃fs fd,P.underlying s=some (.struct fs)/\fs.toList.all (λf=>(cI P f.type).isSome)=true/\fs[f]?=some fd/\cI P fd.type=some q.2.2/\fd.offset=q.1/\fd.type=q.2.1:=by
 unfold aT at h;split at h
 ·rename_i fs hu;obtain⟨hb,h⟩:=aL h;obtain⟨fd,hfd,h⟩:=bind_eq_some_iff.1 h;obtain⟨n,hn,rfl⟩:=aq h;exact⟨fs,fd,hu,hb,hfd,hn,rfl,rfl⟩
 ·cases h
def gu{t:TypeId}{q:TypeId×Nat}(h:Il P t=some q):P.underlying t=some (.slice q.1)/\cI P q.1=some q.2:=by
 unfold Il at h;split at h
 ·rename_i e hu;obtain⟨n,hn,rfl⟩:=aq h;exact⟨hu,hn⟩
 ·cases h
def E4{t:TypeId}{q:Nat×TypeId×Nat}(h:QZ P t=some q):P.underlying t=some (.array q.1 q.2.1)/\cI P q.2.1=some q.2.2:=by
 unfold QZ at h;split at h
 ·rename_i n e hu;obtain⟨s,hs,rfl⟩:=aq h;exact⟨hu,hs⟩
 ·cases h
def yZ{t:TypeId}(h:iM P t=.str):P.underlying t=some .string:=by
 unfold iM at h
 split at h<;>first | assumption | cases h
def pz{t:TypeId}(h:iM P t=.sl):∃e,P.underlying t=some (.slice e):=by
 unfold iM at h
 split at h<;>first | exact⟨_,by assumption⟩ | cases h
def N4{t:TypeId}(h:iM P t=.map):∃k e,P.underlying t=some (.map k e):=by
 unfold iM at h
 split at h<;>first | exact⟨_,_,by assumption⟩ | cases h
def tV{t:TypeId}{cs:List SV}{aS:List AV}(hv:c7 θ ρ cs aS){off:Nat}{v:SV}(h:tU P t cs off=some v):∃a,fa P t aS off=some a/\VS θ ρ v a:=by
 unfold tU at h;obtain⟨q,hq,h⟩:=bind_eq_some_iff.1 h;obtain⟨h1,h2⟩:=uI hq;obtain⟨n,b⟩:=q;unfold fa;simp only at h1 h2 h;rw[h1];cases b
 ·exact hv.get h
 ·simp only at h ⊢;obtain⟨hle,h⟩:=cy h;cases h;rw[h2,aa,hv.length,eN hle,ai];exact⟨_,rfl,by rw[VS];exact⟨_,rfl,(hv.drop off).take n⟩⟩
def Cc{h:H}{id:Nat}{aS:List AV}(hr:rT h.aR id=some aS)(t:TypeId)(off:Nat):h.load P t id off=fa P t aS off:=by
 unfold H.load fa H.chunk;unfold rT at hr
 cases ho:h.aR.get id with
 | none=>rw[ho] at hr;cases hr
 | some ob=>
  rw[ho] at hr
  cases ob with
  | cells cs cg=>
   have hr:some cs=some aS:=hr;cases hr
   cases qy P t with
   | none=>rfl
   | some b=>
    cases b
    ·rfl
    ·simp only
     cases cI P t with
     | none=>rfl
     | some n=>simp only[aa];cases ble (off+n) aS.length<;>rfl
  | ro cs=>
   have hr:some cs=some aS:=hr;cases hr
   cases qy P t with
   | none=>rfl
   | some b=>
    cases b
    ·rfl
    ·simp only
     cases cI P t with
     | none=>rfl
     | some n=>simp only[aa];cases ble (off+n) aS.length<;>rfl
  | _=>cases hr
def Mn{t:TypeId}{row:List AV}{off r k:Nat}(hl:off+r<=row.length){v:AV}(h:fa P t ((row.drop off).take r) k=some v):fa P t row (off+k)=some v:=by
 unfold fa at h ⊢;split at h
 ·obtain⟨n,hn,h⟩:=bind_eq_some_iff.1 h;obtain⟨hb,h⟩:=aL h;cases h;have hb:=Nat.le_of_ble_eq_true hb;rw[List.length_take,List.length_drop] at hb;rw[hn,aa,eN (show off+k+n<=row.length by omega),ai,List.drop_take,List.take_take,List.drop_drop,Nat.min_eq_left (by omega)]
 ·rw[List.getElem?_take] at h;split at h
  ·rw[List.getElem?_drop] at h;exact h
  ·cases h
 ·cases h
def tu{place:Nat->Option (Nat×Nat)}:∀{parts:List (Nat×SV)} {ps:List (Nat×AV)} {cells:List SV} {aS:List AV} {out:List SV},Ss θ ρ parts ps->c7 θ ρ cells aS->ql place cells parts=some out->∃o,ko place aS ps=some o/\c7 θ ρ out o
 | [],ps,cells,aS,out,hp,hc,h=>by
  have hp:ps=[]:=hp;subst hp;simp only[ql,Option.some.injEq] at h;subst h;exact⟨aS,rfl,hc⟩
 | (i,v)::l,ps,cells,aS,out,hp,hc,h=>by
  obtain⟨a,r,rfl,h1,h2⟩:=hp;simp only[ql] at h;simp only[ko];split at h
  ·cases h
  ·rename_i off size hpl;rw[hpl];simp only;obtain⟨cs,hcs,h⟩:=bind_eq_some_iff.1 h;obtain⟨⟨hb1,hb2⟩,h⟩:=cy h;have k:=uZ h1 hcs;subst hb1;rw[k.length,hc.length,aj,eN hb2,ac,ai];exact tu h2 ((hc.take off).app (k.app (hc.drop _))) h
def wu{p q:Nat->Option (Nat×Nat)}(hpq:∀i,(p i).isSome=true->q i=p i):∀{ps:List (Nat×AV)} {aS o:List AV},ko p aS ps=some o->ko q aS ps=some o
 | [],aS,o,h=>h
 | (i,v)::l,aS,o,h=>by
  simp only[ko] at h ⊢
  cases hp:p i with
  | none=>rw[hp] at h;cases h
  | some x=>
   obtain⟨off,size⟩:=x;rw[hpq i (by rw[hp];rfl),hp];rw[hp] at h;simp only at h ⊢;obtain⟨hb,h⟩:=aL h;rw[hb,ai];exact wu hpq h
def Ls{t:TypeId}{parts:List (Nat×SV)}{ps:List (Nat×AV)}(hp:Ss θ ρ parts ps){v:SV}(h:yk P t parts=some v):∃a,uY P t ps=some a/\VS θ ρ v a:=by
 unfold yk at h;unfold uY;obtain⟨z,hz,h⟩:=bind_eq_some_iff.1 h;obtain⟨q,hq,h⟩:=bind_eq_some_iff.1 h;rw[hz,aa];unfold PN at hq;split at hq
 ·rename_i fs hu;obtain⟨hb,hq⟩:=aL hq;cases hq;simp only at h;obtain⟨o,ho,rfl⟩:=aq h;obtain⟨w,hw,kw⟩:=tu hp (c7.a z.cells) ho
  have hw:=wu (q:=vK P fs) (λi hi=>by
   cases hf:aT P t i with
   | none=>rw[hf] at hi;cases hi
   | some q=>
    obtain⟨fs',fd,e1,_,e3,e4,e5,_⟩:=vl hf;rw[hu] at e1;cases e1;unfold vK
    rw[e3,aa,e4,al,e5];rfl) hw
  rw[hu];simp only;rw[hb,ai,hw];exact⟨_,rfl,by rw[VS];exact⟨_,rfl,kw⟩⟩
 ·rename_i n e hu;obtain⟨s,hs,rfl⟩:=aq hq;simp only at h;obtain⟨o,ho,rfl⟩:=aq h;obtain⟨w,hw,kw⟩:=tu hp (c7.a z.cells) ho;rw[hu];simp only;rw[hs,aa,hw];exact⟨_,rfl,by rw[VS];exact⟨_,rfl,kw⟩⟩
 ·cases hq
def yl{t:TypeId}{len:Nat}{parts:List (Nat×SV)}{ps:List (Nat×AV)}(hp:Ss θ ρ parts ps){q:Nat×List SV}(h:ld P t len parts=some q):∃cs,gU P t len ps=some (q.1,cs)/\c7 θ ρ q.2 cs:=by
 unfold ld at h;unfold gU;obtain⟨el,hel,h⟩:=bind_eq_some_iff.1 h;obtain⟨z,hz,h⟩:=bind_eq_some_iff.1 h;obtain⟨⟨b1,b2,b3⟩,h⟩:=cy h;obtain⟨o,ho,rfl⟩:=aq h;obtain⟨hu,hs⟩:=gu hel;obtain⟨w,hw,kw⟩:=tu hp (c7.a (rep z.cells len)) ho
 have hb0:beq el.2 0=false:=by
  cases hb:beq el.2 0
  ·rfl
  ·exact t8 (cU hb) b3
 rw[hu];simp only;rw[hs,aa,hz,aa,eN b1,b2,aj,hb0];simp only[Bool.not_false,ac,ai];rw[hw];exact⟨w,rfl,kw⟩
mutual
def gZ:∀{v:SV} {x a:AV},VS θ ρ v x->cG v=some a->x=a
 | .a v,x,a,hv,h=>by rw[VS] at hv;rw[cG] at h;cases h;exact hv
 | .ag cs,x,a,hv,h=>by
  rw[VS] at hv;rw[cG] at h;obtain⟨aS,rfl,h2⟩:=hv;obtain⟨bs,hb,rfl⟩:=aq h;rw[oI h2 hb]
 | .any,_,_,_,h=>by simp[cG] at h
 | .sl _ _ _,_,_,_,h=>by simp[cG] at h
 | .im _ _,_,_,_,h=>by simp[cG] at h
 | .ip _,_,_,_,h=>by simp[cG] at h
 | .ptr _ _,_,_,_,h=>by simp[cG] at h
 | .map _,_,_,_,h=>by simp[cG] at h
 | .buf _ _ _ _,_,_,_,h=>by simp[cG] at h
 | .sub _ _ _ _ _,_,_,_,h=>by simp[cG] at h
 | .e0 _,_,_,_,h=>by simp[cG] at h
 | .bE _,_,_,_,h=>by simp[cG] at h
 | .fn _ _ _,_,_,_,h=>by simp[cG] at h
 | .iface t v,x,a,hv,h=>by
  rw[VS] at hv;rw[cG] at h;obtain⟨y,rfl,h2⟩:=hv;obtain⟨b,hb,rfl⟩:=aq h;rw[gZ h2 hb]
def oI:∀{vs:List SV} {xs aS:List AV},c7 θ ρ vs xs->gY vs=some aS->xs=aS
 | [],xs,aS,hv,h=>by rw[aQ] at hv;rw[gY] at h;cases h;exact hv
 | d::ds,xs,aS,hv,h=>by
  rw[aK] at hv;rw[gY] at h;obtain⟨a,r,rfl,h1,h2⟩:=hv;obtain⟨b,hb,h⟩:=bind_eq_some_iff.1 h;obtain⟨bs,hbs,rfl⟩:=aq h;rw[gZ h1 hb,oI h2 hbs]
end
def oF{kt:TypeId}{k:AV}:∀(l:List (AV×AV×Nat)) (i:Nat),gX P kt k l i=qn P kt k (l.map (·.1)) i
 | [],_=>rfl
 | e::l,i=>by
  rw[ad];unfold gX qn
  cases lA P 4 kt k e.1 with
  | none=>rfl
  | some b=>
   cases b
   ·exact oF l (i+1)
   ·rfl
def DB{b:Bool}:∀{l:List SV} {x:SV} {xa:AV} {aS:List AV} {v:SV},VS θ ρ x xa->c7 θ ρ l aS->xu b x l=some v->∃a,nB b xa aS=some a/\VS θ ρ v a
 | [],x,xa,aS,v,hx,hl,h=>by
  rw[aQ] at hl;subst hl
  have:v=x:=by
   cases x<;>simp only[xu,Option.some.injEq] at h<;>exact h.symm
  subst this;exact⟨xa,rfl,hx⟩
 | y::l,x,xa,aS,v,hx,hl,h=>by
  rw[aK] at hl;obtain⟨ya,r,rfl,h1,h2⟩:=hl
  cases x with
  | a x=>
   cases y with
   | a y=>
    rw[VS] at hx h1;subst hx;subst h1;simp only[xu] at h;obtain⟨z,hz,h⟩:=bind_eq_some_iff.1 h;obtain⟨w,hw,kw⟩:=DB (x:=.a z) (xa:=z) (by rw[VS]) h2 h;exact⟨w,by simp only[nB,hz,aa];exact hw,kw⟩
   | _=>simp[xu] at h
  | _=>simp[xu] at h
end
end
end Go.Ev
