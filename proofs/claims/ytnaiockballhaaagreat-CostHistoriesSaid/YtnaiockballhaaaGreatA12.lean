/- A part of the texts of this claim: every theorem says what it proves, with its conditions. -/
import Derived.Test.YtnaiockballhaaaGreatA11
set_option linter.unusedSimpArgs false
set_option linter.unusedVariables false
set_option linter.unusedSectionVars false
open Option (bind_eq_some_iff bind_some map_some)
open Nat (ble beq)
namespace Go.Ev
noncomputable section
def yT:AV->SV
 | .agg cs=>.ag (cs.map .a)
 | v=>.a v
def cG:SV->Option (List SV)
 | .any=>none
 | .ag cs=>some cs
 | .a (.agg cs)=>some (cs.map .a)
 | v=>some [v]
def dU:SV->Bool
 | .any=>false
 | .a v=>j7 v
 | .ag _=>false
 | .bI _=>false
 | _=>true
def bf(o:Nat)(v:SV):SV:=cond (names o v) .any v
def dz(o:Nat)(f:Fm):Fm:=f.map λp=>(p.1,bf o p.2)
def bP(o:Nat):SO->SO
 | .cells cs=>.cells (cs.map (bf o))
 | .map ks vs b=>.map ks (vs.map (bf o)) b
 | .iter m bs c pos=>.iter (bf o m) bs c pos
 | .rI ks vs bs c pos=>.rI ks vs bs c pos
 | .gone=>.gone
 | .loop c ls p f=>.loop c ls p (dz o f)
 | .ni N=>.ni N
def eY(f:Fm):Operand->Option SV
 | .tmp i=>if i<1000000 then some (aR f i) else none
 | .const v=>(kT kW v).map yT
 | .func g=>some (.fn g [] [])
 | .global _=>none
def ma(f:Fm):List Operand->Option (List SV)
 | []=>some []
 | x::l=>(eY f x).bind λa=>(ma f l).map λb=>a::b
def jE(f:Fm):List (Nat×Operand)->Option (List (Nat×SV))
 | []=>some []
 | (i,x)::l=>(eY f x).bind λa=>(jE f l).map λb=>(i,a)::b
def s9(f:Fm):Option Operand->Option (Option AV)
 | none=>some none
 | some x=>match eY f x with
  | some (.a v)=>some (some v)
  | _=>none
def o9{α:Type}(p:Prop)[Decidable p](x:Option α):Option α:=if p then x else none
def bW(P:Program)(t:TypeId):Option (Nat×Bool):=(pD P t).bind λb=>(cx P t).map λn=>(n,b)
def aY(P:Program)(s:TypeId)(f:Nat):Option (Nat×TypeId×Nat):=match P.underlying s with
 | some (.struct fs)=>cond (fs.toList.all λf=>(cx P f.type).isSome) ((fs[f]?).bind λfd=>(cx P fd.type).map λn=>(fd.offset,fd.type,n)) none
 | _=>none
def Np(P:Program)(t:TypeId):Option (Option Nat):=match P.underlying t with
 | some (.struct fs)=>cond (fs.toList.all λf=>(cx P f.type).isSome) (some none) none
 | some (.array _ e)=>(cx P e).map some
 | _=>none
def GC(P:Program)(t:TypeId):Option (TypeId×Nat):=match P.underlying t with
 | some (.slice e)=>(cx P e).map λs=>(e,s)
 | _=>none
def OE(P:Program)(t:TypeId):Option (Nat×TypeId×Nat):=match P.underlying t with
 | some (.array n e)=>(cx P e).map λs=>(n,e,s)
 | _=>none
inductive TK where
 | str | sl | map | other
def gV(P:Program)(t:TypeId):TK:=match P.underlying t with
 | some .string=>.str
 | some (.slice _)=>.sl
 | some (.map _ _)=>.map
 | _=>.other
def sL(P:Program)(t:TypeId)(cs:List SV)(off:Nat):Option SV:=(bW P t).bind λq=>match q.2 with
 | true=>o9 (off+q.1<=cs.length) (some (.ag ((cs.drop off).take q.1)))
 | false=>cs[off]?
def pg(place:Nat->Option (Nat×Nat))(cells:List SV):List (Nat×SV)->Option (List SV)
 | []=>some cells
 | (i,v)::rest=>match place i with
  | none=>none
  | some (off,size)=>(cG v).bind λcs=>
   o9 (cs.length=size/\off+size<=cells.length) (pg place (cells.take off++(cs++cells.drop (off+size))) rest)
def wP(P:Program)(t:TypeId)(parts:List (Nat×SV)):Option SV:=
 (dm P t).bind λz=>(Np P t).bind λq=>match q with
  | none=>(pg (λi=>(aY P t i).map λq=>(q.1,q.2.2)) (z.cells.map .a) parts).map .ag
  | some s=>(pg (λi=>some (i*s,s)) (z.cells.map .a) parts).map .ag
def kE(P:Program)(t:TypeId)(len:Nat)(parts:List (Nat×SV)):Option (Nat×List SV):=
 (GC P t).bind λq=>(dm P q.1).bind λz=>
  o9 (len*q.2<=16777216/\z.cells.length=q.2/\q.2≠0)
   ((pg (λi=>some (i*q.2,q.2)) ((rep z.cells len).map .a) parts).map λcs=>(q.2,cs))
mutual
def cH:SV->Option AV
 | .a v=>some v
 | .ag cs=>(jL cs).map .agg
 | .iface t v=>(cH v).map (.iface t)
 | _=>none
def jL:List SV->Option (List AV)
 | []=>some []
 | d::ds=>(cH d).bind λa=>(jL ds).map λb=>a::b
end
def G5:SV->Option Nat
 | .a v=>c9 v
 | _=>none
def sa(P:Program)(kt:TypeId)(k:AV):List AV->Nat->Option (Option Nat)
 | [],_=>some none
 | e::es,i=>match kR P 4 kt k e with
  | some true=>some (some i)
  | some false=>sa P kt k es (i+1)
  | none=>none
def rU(S:List SO):SV->Option (List AV×List SV)
 | .map o=>match S[o]? with
  | some (.map ks vs _)=>some (ks,vs)
  | _=>none
 | .im ks vs=>some (ks,vs)
 | .a (.map none)=>some ([],[])
 | _=>none
def eN(P:Program)(S:List SO)(t:TypeId)(x k:SV)(ok:Bool):Option SV:=
 (di P t).bind λ(kt,et)=>(cH k).bind λk=>cond (vJ P kt k)
  ((rU S x).bind λ(ks,vs)=>(sa P kt k ks 0).bind λr=>
   let v:Option (SV×Bool):=match r with
    | some i=>(vs[i]?).map λe=>(e,true)
    | none=>(dm P et).map λz=>(yT z,false)
   v.map λ(v,b)=>cond ok (.bI [v,.a (.bool b)]) v) none
def e7(P:Program)(S:List SO)(t:TypeId)(x k v:SV):Option (List SO):=
 (di P t).bind λ(kt,_)=>(cH k).bind λk=>cond (vJ P kt k)
  (
   match x with
   | .map o=>match S[o]? with
    | some (.map ks vs b)=>(sa P kt k ks 0).bind λr=>match r with
     | some i=>(ks[i]?).bind λk0=>cond (stays k k0) (some (S.set o (.map (ks.set i k) (vs.set i v) b))) none
     | none=>some (S.set o (.map (ks++[k]) (vs++[v]) (b.map λp=>(p.1++[p.2],p.2+1))))
    | _=>none
   | _=>none) none
def JO(P:Program)(S:List SO)(t:TypeId)(x k:SV):Option (List SO):=
 (di P t).bind λ(kt,_)=>(cH k).bind λk=>cond (vJ P kt k)
  (
   match x with
   | .map o=>match S[o]? with
    | some (.map ks vs b)=>(sa P kt k ks 0).map λr=>match r with
     | some i=>S.set o (.map (ks.eraseIdx i) (vs.eraseIdx i) (b.map λp=>(p.1.eraseIdx i,p.2)))
     | none=>S
    | _=>none
   | _=>none) none
def oS(P:Program)(S:List SO)(t:TypeId)(x:SV):Option Nat:=match gV P t,x with
 | .str,.a (.str s)=>some s.length
 | .sl,.sl n _ _=>some n
 | .sl,.buf _ n _ _=>some n
 | .sl,.a (.slice none n _ _)=>some n
 | .map,x=>(rU S x).map λe=>e.1.length
 | .sl,.sub _ _ n _ _=>some n
 | .sl,.e0 _=>some 0
 | _,_=>none
def mO(S:List SO)(s:Nat):SV->Option (Nat×List SV)
 | .sl n e cs=>o9 (e=s) (some (n,cs))
 | .buf o n e _=>match S[o]? with
  | some (.cells cs)=>o9 (e=s/\n*s<=cs.length) (some (n,cs.take (n*s)))
  | _=>none
 | .a (.slice none 0 0 (some 0))=>some (0,[])
 | .sub o off n e _=>match S[o]? with
  | some (.cells cs)=>o9 (e=s/\off+n*s<=cs.length) (some (n,(cs.drop off).take (n*s)))
  | _=>none
 | .e0 _=>some (0,[])
 | _=>none
def dq(o:Nat)(S:List SO):List SO:=S.map (bP o)
def gi(S:List SO)(so:SO):List SO:=dq S.length S++[bP S.length so]
def nW(P:Program)(e:TypeId):Bool:=match P.info? e with
 | some i=>ble i.bytes 10000
 | none=>false
def Dl(S:List SO):SV->Option (SV×List SO×Option Nat)
 | .a (.slice none 0 0 (some 0))=>some (.a (.slice none 0 0 (some 0)),S,none)
 | .buf o n e c=>o9 (n<=1000000) (some (.buf o n e c,S,none))
 | .e0 e=>some (.e0 e,S,none)
 | _=>none
def yX(S:List SO)(s:Nat)(x:SV)(p:Nat×List SV):Option (SV×List SO×Option Nat):=match x with
 | .a (.slice none 0 0 (some 0))=>some (.buf S.length p.1 s none,gi S (.cells p.2),some S.length)
 | .buf o n es none=>match S[o]? with
  | some (.cells cs)=>o9 (es=s/\n<=1000000/\n*es<=cs.length)
   (some (.buf o (n+p.1) es none,(dq o S).set o (bP o (.cells (cs.take (n*es)++p.2))),some o))
  | _=>none
 | .e0 e=>o9 (e=s) (some (.buf S.length p.1 s none,gi S (.cells p.2),some S.length))
 | .buf o n es (some c)=>match S[o]? with
  | some (.cells cs)=>o9 (es=s/\n<=1000000/\n*es<=cs.length/\c<n+p.1)
   (some (.buf S.length (n+p.1) es none,gi S (.cells (cs.take (n*es)++p.2)),some S.length))
  | _=>none
 | _=>none
def isInt(P:Program)(t:TypeId):Bool:=match P.underlying t with
 | some (.int _)=>true
 | _=>false
def sC(P:Program)(S:List SO)(xt:TypeId)(s:Nat)(z:AV)(y:SV):Option (Nat×List SV):=match gV P xt with
 | .sl=>mO S s y
 | .other=>cond (isInt P xt) ((G5 y).bind λn=>o9 (n<=1000000) (some (n,(rep z.cells n).map .a))) none
 | _=>none
def rM(P:Program)(S:List SO)(st xt:TypeId)(x y:SV):Option (SV×List SO×Option Nat):=
 (GC P st).bind λq=>(dm P q.1).bind λz=>o9 (z.cells.length=q.2/\q.2≠0/\nW P q.1=true)
  ((sC P S xt q.2 z y).bind λp=>if p.1=0 then Dl S x else o9 (p.1<=1000000/\p.2.all dU=true) (yX S q.2 x p))
def vL(isMax:Bool):SV->List SV->Option SV
 | x,[]=>some x
 | .a x,.a y::l=>(rj isMax x y).bind λz=>vL isMax (.a z) l
 | _,_=>none
def OG:SV->Option (Nat×Nat×Nat×Nat)
 | .buf o n e _=>some (o,0,n,e)
 | .sub o off n e _=>some (o,off,n,e)
 | _=>none
def Iu(S:List SO)(s o off des:Nat)(rows:List SV)(n:Nat):Option (SV×List SO×Option Nat):=
 if n=0 then some (.a (.int .i64 0),S,none) else match S[o]? with
  | some (.cells cs)=>o9 (des=s/\off+n*s<=cs.length/\n*s<=rows.length/\(rows.take (n*s)).all dU=true)
   (some (.a (.int .i64 (n:Nat)),S.set o (.cells (cs.take off++(rows.take (n*s)++cs.drop (off+n*s)))),none))
  | _=>none
def DN(P:Program)(S:List SO)(t:TypeId)(x y:SV):Option (SV×List SO×Option Nat):=(GC P t).bind λq=>(OG x).bind λ(o,off,dl,des)=>(mO S q.2 y).bind λp=>
 Iu S q.2 o off des p.2 (Nat.min p.1 dl)
def wW(P:Program)(S:List SO)(t:TypeId)(x:SV):Option (SV×List SO×Option Nat):=(GC P t).bind λq=>(dm P q.1).bind λz=>(OG x).bind λ(o,off,n,es)=>
 if n=0 then some (.a kh,S,none) else match S[o]? with
  | some (.cells cs)=>o9 (es=q.2/\z.cells.length=q.2/\off+n*q.2<=cs.length/\(rep z.cells n).all j7=true)
   (some (.a kh,S.set o (.cells (cs.take off++((rep z.cells n).map .a++cs.drop (off+n*q.2)))),none))
  | _=>none
def wS:SV->Option Nat
 | .a (.slice none 0 0 (some 0))=>some 0
 | .buf _ _ _ (some c)=>some c
 | .sub _ _ _ _ (some c)=>some c
 | .e0 _=>some 0
 | _=>none
def dC(P:Program)(S:List SO)(b:Builtin)(ats:List TypeId)(xs:List SV):Option (SV×List SO×Option Nat):=match b,ats,xs with
 | .append,st::xt::_,[x,y]=>rM P S st xt x y
 | .len,t::_,x::_=>(oS P S t x).map λ(n:Nat)=>((SV.a (.int .i64 (n:Int)),S,none):SV×List SO×Option Nat)
 | .min,_,x::l=>(vL false x l).map λv=>(v,S,none)
 | .max,_,x::l=>(vL true x l).map λv=>(v,S,none)
 | .delete,t::_,x::k::_=>(JO P S t x k).map λS=>(.a kh,S,none)
 | .copy,dt::_,[x,y]=>DN P S dt x y
 | .clear,t::_,[x]=>wW P S t x
 | .cap,t::_,[x]=>(GC P t).bind λ_=>(wS x).map λ(c:Nat)=>((SV.a (.int .i64 (c:Int)),S,none):SV×List SO×Option Nat)
 | _,_,_=>none
def EN:Option SV->Option SV->Option SV->Option SV
 | some (.a (.bool z)),some x,some y=>some (cond z x y)
 | _,_,_=>none
def sw(P:Program)(S:List SO)(tt:TypeId):SV->Option SV
 | .ptr o off=>match S[o]? with
  | some (.cells cs)=>sL P tt cs off
  | _=>none
 | .ip cs=>sL P tt cs 0
 | _=>none
def yj(P:Program)(S:List SO)(tt:TypeId)(a x:SV):Option (List SO):=match a with
 | .ptr o off=>match S[o]? with
  | some (.cells cs)=>(bW P tt).bind λq=>(cG x).bind λvs=>
   o9 (vs.length=q.1/\off+q.1<=cs.length/\vs.all dU=true) (some (S.set o (.cells (cs.take off++(vs++cs.drop (off+q.1))))))
  | _=>none
 | _=>none
def cC(P:Program):SV->Option SV
 | .ptr o off=>some (.ptr o off)
 | .ip cs=>some (.ip cs)
 | .fn g a b=>some (.fn g a b)
 | .sl n e cs=>some (.sl n e cs)
 | .buf o n e c=>some (.buf o n e c)
 | .sub o off n e c=>some (.sub o off n e c)
 | .e0 e=>some (.e0 e)
 | .a (.fn (.method nm) [.iface t v] ys)=>(iM P t nm).map λ_=>.a (.fn (.method nm) [.iface t v] ys)
 | _=>none
def lQ(P:Program)(s:TypeId)(x:SV)(f:Nat):Option SV:=(aY P s f).bind λq=>o9 (q.2.2≠0) (match x with
 | .ptr o off=>some (.ptr o (off+q.1))
 | .ip cs=>o9 (q.1<=cs.length) (some (.ip (cs.drop q.1)))
 | _=>none)
def tZ(P:Program)(s:TypeId)(x:SV)(f:Nat):Option SV:=match x with
 | .ag cs=>(aY P s f).bind λq=>sL P q.2.1 cs q.1
 | _=>none
def lS(P:Program)(t:TypeId)(x:SV)(i:SV):Option SV:=(G5 i).bind λi=>match OE P t with
 | some q=>o9 (i<q.1) (match x with
  | .ptr o off=>some (.ptr o (off+i*q.2.2))
  | .ip cs=>o9 (i*q.2.2<=cs.length) (some (.ip (cs.drop (i*q.2.2))))
  | _=>none)
 | none=>(GC P t).bind λq=>match x with
  | .sl n es cs=>o9 (i<n/\q.2=es) (some (.ip ((cs.drop (i*q.2)).take q.2)))
  | .buf o n es _=>o9 (i<n/\q.2=es) (some (.ptr o (i*q.2)))
  | .sub o off n es _=>o9 (i<n/\q.2=es) (some (.ptr o (off+i*q.2)))
  | _=>none
def xB(P:Program)(t:TypeId)(x:SV)(i:SV):Option SV:=(G5 i).bind λi=>match x with
 | .ag cs=>(OE P t).bind λq=>o9 (i<q.1) (sL P q.2.1 cs (i*q.2.2))
 | .a (.str s)=>match gV P t with
  | .str=>(s[i]?).map λb=>.a (.int .u8 (Int.ofNat b))
  | _=>none
 | _=>none
def fK(P:Program)(t:TypeId)(x:SV)(lo hi mx:Option AV):Option SV:=match gV P t,x with
 | .str,.a (.str s)=>match mx with
  | some _=>none
  | none=>(cF s.length (some s.length) lo hi none).map λ(l,hh,_)=>.a (.str ((s.drop l).take (hh-l)))
 | .sl,.sl n es cs=>match mx with
  | some m=>(GC P t).bind λq=>o9 (lo=none/\hi.bind c9=some 0/\c9 m=some 0/\q.2=es) (some (.e0 q.2))
  | none=>(GC P t).bind λq=>(cF n none lo hi none).bind λ(l,hh,_)=>o9 (q.2=es) (some (.sl (hh-l) q.2 ((cs.drop (l*q.2)).take ((hh-l)*q.2))))
 | .sl,.buf o n es c=>match mx with
  | some _=>none
  | none=>(GC P t).bind λq=>(cF n c lo hi none).bind λ(l,hh,m)=>o9 (q.2=es) (some (match lo with
   | none=>.buf o (hh-l) q.2 (aP m l)
   | some _=>.sub o (l*q.2) (hh-l) q.2 (aP m l)))
 | .sl,.sub o off n es c=>match mx with
  | some _=>none
  | none=>(GC P t).bind λq=>(cF n c lo hi none).bind λ(l,hh,m)=>o9 (q.2=es) (some (.sub o (off+l*q.2) (hh-l) q.2 (aP m l)))
 | .sl,.a (.slice none 0 0 (some 0))=>(GC P t).bind λ_=>(cF 0 (some 0) lo hi mx).map λ_=>.a (.slice none 0 0 (some 0))
 | .sl,.e0 e=>(GC P t).bind λq=>(cF 0 (some 0) lo hi mx).bind λ(l,hh,m)=>o9 (l=0/\hh=0/\m=some 0/\q.2=e) (some (.e0 e))
 | _,_=>none
def IG(P:Program)(t:TypeId):Bool:=match P.underlying t with
 | some (.interface _)=>false
 | some _=>true
 | none=>false
def db(P:Program)(f:Fm)(S:List SO)(op:Op):Option (SV×List SO×Option Nat):=match op with
 | .move x=>(eY f x).map λv=>(v,S,none)
 | .assign x=>(eY f x).map λv=>(v,S,none)
 | .pick c a b=>(EN (eY f c) (eY f a) (eY f b)).map λv=>(v,S,none)
 | .alloc e=>(dm P e).map λz=>(.ptr S.length 0,gi S (.cells (z.cells.map .a)),some S.length)
 | .box _ x=>(eY f x).bind λv=>(cG v).map λcs=>(.ptr S.length 0,gi S (.cells cs),some S.length)
 | .build tt ps=>(jE f ps.toList).bind λl=>(wP P tt l).map λv=>(v,S,none)
 | .buildSlice tt n ps=>(jE f ps.toList).bind λl=>(kE P tt n l).map λq=>(.buf S.length n q.1 (some n),gi S (.cells q.2),some S.length)
 | .makeMap _ none=>some (.map S.length,gi S (.map [] [] none),some S.length)
 | .makeSlice tt l c=>match eY f l,eY f c with
  | some (.a l),some (.a c)=>(eS P tt l c).map λq=>(.buf S.length q.1 q.2.1 (some q.2.2.1),gi S (.cells (q.2.2.2.map .a)),some S.length)
  | _,_=>none
 | .load tt a=>(eY f a).bind λa=>(sw P S tt a).map λv=>(v,S,none)
 | .store tt a x=>(eY f a).bind λa=>(eY f x).bind λx=>(yj P S tt a x).map λS=>(.a kh,S,none)
 | .nilCheck x=>(eY f x).bind λx=>(cC P x).map λv=>(v,S,none)
 | .binOp op t x y _=>(eY f x).bind λx=>(eY f y).bind λy=>(cH x).bind λx=>(cH y).bind λy=>(cM P op t x y).map λv=>(.a v,S,none)
 | .unOp op _ x=>(eY f x).bind λx=>(cH x).bind λx=>(PE op x).map λv=>(.a v,S,none)
 | .convert s d x=>(eY f x).bind λx=>(cH x).bind λx=>(lO P s d x).map λv=>(.a v,S,none)
 | .makeInterface t x=>cond (IG P t) ((eY f x).map λv=>(.iface t v,S,none)) none
 | .makeFunc (.func g) first cap=>(ma f first.toList).bind λa=>(ma f cap.toList).map λb=>(.fn g a b,S,none)
 | .slice tt x lo hi mx=>(eY f x).bind λx=>(s9 f lo).bind λlo=>(s9 f hi).bind λhi=>(s9 f mx).bind λmx=>(fK P tt x lo hi mx).map λv=>(v,S,none)
 | .fieldAddr s x fl=>(eY f x).bind λx=>(lQ P s x fl).map λv=>(v,S,none)
 | .field s x fl=>(eY f x).bind λx=>(tZ P s x fl).map λv=>(v,S,none)
 | .indexAddr t x i=>(eY f x).bind λx=>(eY f i).bind λi=>(lS P t x i).map λv=>(v,S,none)
 | .index t x i=>(eY f x).bind λx=>(eY f i).bind λi=>(xB P t x i).map λv=>(v,S,none)
 | .lookup t x k ok=>(eY f x).bind λx=>(eY f k).bind λk=>(eN P S t x k ok).map λv=>(v,S,none)
 | .mapUpdate t m k x=>(eY f m).bind λm=>(eY f k).bind λk=>(eY f x).bind λx=>(e7 P S t m k x).map λS=>(.a kh,S,none)
 | .insert t m k x=>(eY f m).bind λm=>(eY f k).bind λk=>(eY f x).bind λx=>(e7 P S t m k x).map λS=>(.a kh,S,none)
 | .extract x i=>match eY f x with
  | some (.bI vs)=>(vs[i]?).map λv=>(v,S,none)
  | _=>none
 | .call { callee:=.builtin b,args:=aS,argTypes:=ats }=>(ma f aS.toList).bind λxs=>dC P S b ats.toList xs
 | .makeFunc (.method nm) first cap=>(ma f first.toList).bind λa=>(jL a).bind λa=>(ma f cap.toList).bind λb=>(jL b).map λb=>(.a (.fn (.method nm) a b),S,none)
 | _=>none
def sq(k:Option Nat)(v:SV):SV:=match k with
 | none=>v
 | some o=>bf o v
def ia(f:Fm)(kill:Option Nat):Fm:=match kill with
 | none=>f
 | some o=>dz o f
def se(f:Fm)(kill:Option Nat)(dst:Option Tmp)(v:SV):Fm:=match dst with
 | none=>ia f kill
 | some d=>(d,v)::ia f kill
section
variable {θ:Nat->Loc} {ρ:jP} {P:Program}
theorem c8.a:∀(aS:List AV),c8 θ ρ (aS.map .a) aS
 | []=>by rw[List.map_nil,bg]
 | a::aS=>by rw[List.map_cons,aL];exact⟨a,aS,rfl,by rw[VS],c8.a aS⟩
theorem ym(v:AV):VS θ ρ (yT v) v:=by
 unfold yT;split
 ·rw[VS];exact⟨_,rfl,c8.a _⟩
 ·rw[VS]
theorem bL{f:Fm}{af:Nat->AV}{n:Nat}{wv:Nat->AV}(hF:FR θ ρ (aR f) af n wv){x:Operand}{v:SV}(h:eY f x=some v):∃a,ev (dL af n) x=some a/\VS θ ρ v a:=by
 cases x with
 | tmp i=>
  simp only[eY] at h
  have hlim:i<1000000:=by
   apply Decidable.byContradiction;intro hn;rw[if_neg hn] at h;cases h
  rw[if_pos hlim] at h;cases h;have:=hF.v i;by_cases hi:i<n
  ·rw[if_pos hi] at this;exact⟨_,O9 hi,this⟩
  ·rw[if_neg hi,hF.u i hlim] at this
   exact⟨kh,by
    have:(dL af n).get i=none:=yo af n i (Nat.le_of_not_lt hi)
    simp only[ev,this],this⟩
 | const c=>
  simp only[eY] at h;obtain⟨a,ha,rfl⟩:=au h;exact⟨a,ha,ym a⟩
 | func g=>
  simp only[eY,Option.some.injEq] at h;subst h;exact⟨_,ND,by rw[VS];exact⟨[],[],rfl,by rw[bg],by rw[bg]⟩⟩
 | global g=>simp[eY] at h
theorem kq{f:Fm}{af:Nat->AV}{n:Nat}{wv:Nat->AV}(hF:FR θ ρ (aR f) af n wv):∀{l:List Operand} {vs:List SV},ma f l=some vs->∃aS,tF (dL af n) l=some aS/\c8 θ ρ vs aS
 | [],vs,h=>by
  simp only[ma,Option.some.injEq] at h;subst h;exact⟨[],rfl,by rw[bg]⟩
 | x::l,vs,h=>by
  rw[ma] at h;obtain⟨v,hv,h⟩:=bind_eq_some_iff.1 h;obtain⟨ws,hw,rfl⟩:=au h;obtain⟨a,ha,ka⟩:=bL hF hv;obtain⟨aS,hs,ks⟩:=kq hF hw;exact⟨a::aS,by rw[Lx,ha,hs];rfl,by rw[aL];exact⟨a,aS,rfl,ka,ks⟩⟩
def PU(θ:Nat->Loc)(ρ:jP):List (Nat×SV)->List (Nat×AV)->Prop
 | [],aS=>aS=[]
 | (i,v)::l,aS=>∃a r,aS=(i,a)::r/\VS θ ρ v a/\PU θ ρ l r
theorem uG{f:Fm}{af:Nat->AV}{n:Nat}{wv:Nat->AV}(hF:FR θ ρ (aR f) af n wv):∀{l:List (Nat×Operand)} {vs:List (Nat×SV)},jE f l=some vs->∃aS,k7 (dL af n) l=some aS/\PU θ ρ vs aS
 | [],vs,h=>by
  simp only[jE,Option.some.injEq] at h;subst h;exact⟨[],rfl,rfl⟩
 | (i,x)::l,vs,h=>by
  rw[jE] at h;obtain⟨v,hv,h⟩:=bind_eq_some_iff.1 h;obtain⟨ws,hw,rfl⟩:=au h;obtain⟨a,ha,ka⟩:=bL hF hv;obtain⟨aS,hs,ks⟩:=uG hF hw;exact⟨(i,a)::aS,by rw[EK,ha,hs];rfl,a,aS,rfl,ka,ks⟩
theorem Ct{f:Fm}{af:Nat->AV}{n:Nat}{wv:Nat->AV}(hF:FR θ ρ (aR f) af n wv){o:Option Operand}{v:Option AV}(h:s9 f o=some v):Lw (dL af n) o=some v:=by
 cases o with
 | none=>simp only[s9,Option.some.injEq] at h;subst h;rfl
 | some x=>
  simp only[s9] at h;split at h
  ·rename_i w hw;cases h;obtain⟨a,ha,ka⟩:=bL hF hw;rw[VS] at ka;subst ka;simp only[Lw,ha,map_some]
  ·cases h
theorem JI{v:AV}(h:∀cs,v≠.agg cs):v.cells=[v]:=by
 cases v<;>first | rfl | exact absurd rfl (h _)
theorem tP{v:SV}{x:AV}(hv:VS θ ρ v x){cs:List SV}(h:cG v=some cs):c8 θ ρ cs x.cells:=by
 have one:∀{w:SV},VS θ ρ w x->(∀cs,x≠.agg cs)->c8 θ ρ [w] x.cells:=by
  intro w hw hx;rw[JI hx,aL];exact⟨x,[],rfl,hw,by rw[bg]⟩
 cases v with
 | any=>simp[cG] at h
 | a v=>
  have hv':=hv;rw[VS] at hv;subst hv
  cases x with
  | agg cs'=>simp only[cG,Option.some.injEq] at h;subst h;exact c8.a _
  | _=>simp only[cG,Option.some.injEq] at h;subst h;exact one hv' (λ_ h=>by cases h)
 | ag cs'=>
  simp only[cG,Option.some.injEq] at h;subst h;rw[VS] at hv;obtain⟨aS,rfl,h2⟩:=hv;exact h2
 | sl n e cs'=>
  simp only[cG,Option.some.injEq] at h;subst h;refine one hv ?_;rw[VS,GS] at hv
  rcases hv with⟨_,_,o,e',c,rfl,_,_⟩ | ⟨id,off,cap,row,rfl,_⟩<;>exact λ_ h=>by cases h
 | im ks vs=>
  simp only[cG,Option.some.injEq] at h;subst h;refine one hv ?_;rw[VS,GS] at hv;obtain⟨id,l,c,rfl,_⟩:=hv
  exact λ_ h=>by cases h
 | ip cs'=>
  simp only[cG,Option.some.injEq] at h;subst h;refine one hv ?_;rw[VS,GS] at hv;obtain⟨id,off,row,r,rfl,_⟩:=hv
  exact λ_ h=>by cases h
 | ptr o off=>
  simp only[cG,Option.some.injEq] at h;subst h;refine one hv ?_
  rw[VS] at hv;subst hv;exact λ_ h=>by cases h
 | map o=>
  simp only[cG,Option.some.injEq] at h;subst h;refine one hv ?_
  rw[VS] at hv;subst hv;exact λ_ h=>by cases h
 | buf o n e c=>
  simp only[cG,Option.some.injEq] at h;subst h;refine one hv ?_
  rw[VS] at hv;subst hv;exact λ_ h=>by cases h
 | sub o off n e c=>
  simp only[cG,Option.some.injEq] at h;subst h;refine one hv ?_
  rw[VS] at hv;subst hv;exact λ_ h=>by cases h
 | e0 e=>
  simp only[cG,Option.some.injEq] at h;subst h;refine one hv ?_
  rw[VS] at hv;obtain⟨o,e',rfl,_⟩:=hv;exact λ_ h=>by cases h
 | bI vs=>
  simp only[cG,Option.some.injEq] at h;subst h;refine one hv ?_
  rw[VS] at hv;obtain⟨aS,rfl,_⟩:=hv;exact λ_ h=>by cases h
 | fn g a b=>
  simp only[cG,Option.some.injEq] at h;subst h;refine one hv ?_
  rw[VS] at hv;obtain⟨aS,bs,rfl,_⟩:=hv;exact λ_ h=>by cases h
 | iface t v=>
  simp only[cG,Option.some.injEq] at h;subst h;refine one hv ?_
  rw[VS] at hv;obtain⟨y,rfl,_⟩:=hv;exact λ_ h=>by cases h
theorem N6{v:SV}{x:AV}(hv:VS θ ρ v x)(h:dU v=true):j7 x=true:=by
 cases v with
 | any=>simp[dU] at h
 | a v=>rw[VS] at hv;subst hv;exact h
 | ag cs=>simp[dU] at h
 | bI cs=>simp[dU] at h
 | sl n e cs=>rw[VS,GS] at hv;rcases hv with⟨_,_,o,e',c,rfl,_,_⟩ | ⟨id,off,cap,row,rfl,_⟩<;>rfl
 | im ks vs=>rw[VS,GS] at hv;obtain⟨id,l,c,rfl,_⟩:=hv;rfl
 | ip cs=>rw[VS,GS] at hv;obtain⟨id,off,row,r,rfl,_⟩:=hv;rfl
 | ptr o off=>rw[VS] at hv;subst hv;rfl
 | map o=>rw[VS] at hv;subst hv;rfl
 | buf o n e c=>rw[VS] at hv;subst hv;rfl
 | sub o off n e c=>rw[VS] at hv;subst hv;rfl
 | e0 e=>rw[VS] at hv;obtain⟨o,e',rfl,_⟩:=hv;rfl
 | fn g a b=>rw[VS] at hv;obtain⟨aS,bs,rfl,_⟩:=hv;rfl
 | iface t v=>rw[VS] at hv;obtain⟨y,rfl,_⟩:=hv;rfl
theorem np:∀{vs:List SV} {xs:List AV},c8 θ ρ vs xs->vs.all dU=true->xs.all j7=true
 | [],xs,hv,_=>by rw[bg] at hv;subst hv;rfl
 | d::ds,xs,hv,h=>by
  rw[aL] at hv;obtain⟨a,r,rfl,h1,h2⟩:=hv;rw[List.all_cons,Bool.and_eq_true] at h ⊢;exact⟨N6 h1 h.1,np h2 h.2⟩
theorem cg{α:Type}{p:Prop}[Decidable p]{x:Option α}{y:α}(h:o9 p x=some y):p/\x=some y:=by
 unfold o9 at h;split at h
 ·rename_i hp;exact⟨hp,h⟩
 ·cases h
theorem tv{t:TypeId}{q:Nat×Bool}(h:bW P t=some q):pD P t=some q.2/\cx P t=some q.1:=by
 unfold bW at h;obtain⟨b,hb,h⟩:=bind_eq_some_iff.1 h;obtain⟨n,hn,rfl⟩:=au h;exact⟨hb,hn⟩
theorem ua{s:TypeId}{f:Nat}{q:Nat×TypeId×Nat}(h:aY P s f=some q):∃fs fd,P.underlying s=some (.struct fs)/\fs.toList.all (λf=>(cx P f.type).isSome)=true/\fs[f]?=some fd/\cx P fd.type=some q.2.2/\fd.offset=q.1/\fd.type=q.2.1:=by
 unfold aY at h;split at h
 ·rename_i fs hu;obtain⟨hb,h⟩:=aK h;obtain⟨fd,hfd,h⟩:=bind_eq_some_iff.1 h;obtain⟨n,hn,rfl⟩:=au h;exact⟨fs,fd,hu,hb,hfd,hn,rfl,rfl⟩
 ·cases h
theorem fR{t:TypeId}{q:TypeId×Nat}(h:GC P t=some q):P.underlying t=some (.slice q.1)/\cx P q.1=some q.2:=by
 unfold GC at h;split at h
 ·rename_i e hu;obtain⟨n,hn,rfl⟩:=au h;exact⟨hu,hn⟩
 ·cases h
theorem Ds{t:TypeId}{q:Nat×TypeId×Nat}(h:OE P t=some q):P.underlying t=some (.array q.1 q.2.1)/\cx P q.2.1=some q.2.2:=by
 unfold OE at h;split at h
 ·rename_i n e hu;obtain⟨s,hs,rfl⟩:=au h;exact⟨hu,hs⟩
 ·cases h
theorem xI{t:TypeId}(h:gV P t=.str):P.underlying t=some .string:=by
 unfold gV at h
 split at h<;>first | assumption | cases h
theorem oh{t:TypeId}(h:gV P t=.sl):∃e,P.underlying t=some (.slice e):=by
 unfold gV at h
 split at h<;>first | exact⟨_,by assumption⟩ | cases h
theorem LR{t:TypeId}(h:gV P t=.map):∃k e,P.underlying t=some (.map k e):=by
 unfold gV at h
 split at h<;>first | exact⟨_,_,by assumption⟩ | cases h
theorem sM{t:TypeId}{cs:List SV}{aS:List AV}(hv:c8 θ ρ cs aS){off:Nat}{v:SV}(h:sL P t cs off=some v):∃a,dI P t aS off=some a/\VS θ ρ v a:=by
 unfold sL at h;obtain⟨q,hq,h⟩:=bind_eq_some_iff.1 h;obtain⟨h1,h2⟩:=tv hq;obtain⟨n,b⟩:=q;unfold dI;simp only at h1 h2 h;rw[h1];cases b
 ·exact hv.get h
 ·simp only at h ⊢;obtain⟨hle,h⟩:=cg h;cases h;rw[h2,bind_some,hv.length,ek hle,ah];exact⟨_,rfl,by rw[VS];exact⟨_,rfl,(hv.drop off).take n⟩⟩
theorem AS{h:H}{id:Nat}{aS:List AV}(hr:qK h.aQ id=some aS)(t:TypeId)(off:Nat):h.load P t id off=dI P t aS off:=by
 unfold H.load dI H.chunk;unfold qK at hr
 cases ho:h.aQ.get id with
 | none=>rw[ho] at hr;cases hr
 | some ob=>
  rw[ho] at hr
  cases ob with
  | cells cs bZ=>
   have hr:some cs=some aS:=hr;cases hr
   cases pD P t with
   | none=>rfl
   | some b=>
    cases b
    ·rfl
    ·simp only
     cases cx P t with
     | none=>rfl
     | some n=>simp only[bind_some];cases ble (off+n) aS.length<;>rfl
  | ro cs=>
   have hr:some cs=some aS:=hr;cases hr
   cases pD P t with
   | none=>rfl
   | some b=>
    cases b
    ·rfl
    ·simp only
     cases cx P t with
     | none=>rfl
     | some n=>simp only[bind_some];cases ble (off+n) aS.length<;>rfl
  | _=>cases hr
theorem Km{t:TypeId}{row:List AV}{off r k:Nat}(hl:off+r<=row.length){v:AV}(h:dI P t ((row.drop off).take r) k=some v):dI P t row (off+k)=some v:=by
 unfold dI at h ⊢;split at h
 ·obtain⟨n,hn,h⟩:=bind_eq_some_iff.1 h;obtain⟨hb,h⟩:=aK h;cases h;have hb:=Nat.le_of_ble_eq_true hb;rw[List.length_take,List.length_drop] at hb;rw[hn,bind_some,ek (show off+k+n<=row.length by omega),ah,List.drop_take,List.take_take,List.drop_drop,Nat.min_eq_left (by omega)]
 ·rw[List.getElem?_take] at h;split at h
  ·rw[List.getElem?_drop] at h;exact h
  ·cases h
 ·cases h
theorem r7{place:Nat->Option (Nat×Nat)}:∀{parts:List (Nat×SV)} {ps:List (Nat×AV)} {cells:List SV} {aS:List AV} {out:List SV},PU θ ρ parts ps->c8 θ ρ cells aS->pg place cells parts=some out->∃o,jK place aS ps=some o/\c8 θ ρ out o
 | [],ps,cells,aS,out,hp,hc,h=>by
  have hp:ps=[]:=hp;subst hp;simp only[pg,Option.some.injEq] at h;subst h;exact⟨aS,rfl,hc⟩
 | (i,v)::l,ps,cells,aS,out,hp,hc,h=>by
  obtain⟨a,r,rfl,h1,h2⟩:=hp;simp only[pg] at h;simp only[jK];split at h
  ·cases h
  ·rename_i off size hpl;rw[hpl];simp only;obtain⟨cs,hcs,h⟩:=bind_eq_some_iff.1 h;obtain⟨⟨hb1,hb2⟩,h⟩:=cg h;have k:=tP h1 hcs;subst hb1;rw[k.length,hc.length,Nat.beq_refl,ek hb2,Bool.and_self,ah];exact r7 h2 ((hc.take off).app (k.app (hc.drop _))) h
theorem uV{p q:Nat->Option (Nat×Nat)}(hpq:∀i,(p i).isSome=true->q i=p i):∀{ps:List (Nat×AV)} {aS o:List AV},jK p aS ps=some o->jK q aS ps=some o
 | [],aS,o,h=>h
 | (i,v)::l,aS,o,h=>by
  simp only[jK] at h ⊢
  cases hp:p i with
  | none=>rw[hp] at h;cases h
  | some x=>
   obtain⟨off,size⟩:=x;rw[hpq i (by rw[hp];rfl),hp];rw[hp] at h;simp only at h ⊢;obtain⟨hb,h⟩:=aK h;rw[hb,ah];exact uV hpq h
theorem JG{t:TypeId}{parts:List (Nat×SV)}{ps:List (Nat×AV)}(hp:PU θ ρ parts ps){v:SV}(h:wP P t parts=some v):∃a,tO P t ps=some a/\VS θ ρ v a:=by
 unfold wP at h;unfold tO;obtain⟨z,hz,h⟩:=bind_eq_some_iff.1 h;obtain⟨q,hq,h⟩:=bind_eq_some_iff.1 h;rw[hz,bind_some];unfold Np at hq;split at hq
 ·rename_i fs hu;obtain⟨hb,hq⟩:=aK hq;cases hq;simp only at h;obtain⟨o,ho,rfl⟩:=au h;obtain⟨w,hw,kw⟩:=r7 hp (c8.a z.cells) ho
  have hw:=uV (q:=uA P fs) (λi hi=>by
   cases hf:aY P t i with
   | none=>rw[hf] at hi;cases hi
   | some q=>
    obtain⟨fs',fd,e1,_,e3,e4,e5,_⟩:=ua hf;rw[hu] at e1;cases e1;unfold uA
    rw[e3,bind_some,e4,map_some,e5];rfl) hw
  rw[hu];simp only;rw[hb,ah,hw];exact⟨_,rfl,by rw[VS];exact⟨_,rfl,kw⟩⟩
 ·rename_i n e hu;obtain⟨s,hs,rfl⟩:=au hq;simp only at h;obtain⟨o,ho,rfl⟩:=au h;obtain⟨w,hw,kw⟩:=r7 hp (c8.a z.cells) ho;rw[hu];simp only;rw[hs,bind_some,hw];exact⟨_,rfl,by rw[VS];exact⟨_,rfl,kw⟩⟩
 ·cases hq
theorem wQ{t:TypeId}{len:Nat}{parts:List (Nat×SV)}{ps:List (Nat×AV)}(hp:PU θ ρ parts ps){q:Nat×List SV}(h:kE P t len parts=some q):∃cs,gq P t len ps=some (q.1,cs)/\c8 θ ρ q.2 cs:=by
 unfold kE at h;unfold gq;obtain⟨el,hel,h⟩:=bind_eq_some_iff.1 h;obtain⟨z,hz,h⟩:=bind_eq_some_iff.1 h;obtain⟨⟨b1,b2,b3⟩,h⟩:=cg h;obtain⟨o,ho,rfl⟩:=au h;obtain⟨hu,hs⟩:=fR hel;obtain⟨w,hw,kw⟩:=r7 hp (c8.a (rep z.cells len)) ho
 have hb0:beq el.2 0=false:=by
  cases hb:beq el.2 0
  ·rfl
  ·exact absurd (cP hb) b3
 rw[hu];simp only;rw[hs,bind_some,hz,bind_some,ek b1,b2,Nat.beq_refl,hb0];simp only[Bool.not_false,Bool.and_self,ah];rw[hw];exact⟨w,rfl,kw⟩
mutual
theorem js:∀{v:SV} {x a:AV},VS θ ρ v x->cH v=some a->x=a
 | .a v,x,a,hv,h=>by rw[VS] at hv;rw[cH] at h;cases h;exact hv
 | .ag cs,x,a,hv,h=>by
  rw[VS] at hv;rw[cH] at h;obtain⟨aS,rfl,h2⟩:=hv;obtain⟨bs,hb,rfl⟩:=au h;rw[pj h2 hb]
 | .any,_,_,_,h=>by simp[cH] at h
 | .sl _ _ _,_,_,_,h=>by simp[cH] at h
 | .im _ _,_,_,_,h=>by simp[cH] at h
 | .ip _,_,_,_,h=>by simp[cH] at h
 | .ptr _ _,_,_,_,h=>by simp[cH] at h
 | .map _,_,_,_,h=>by simp[cH] at h
 | .buf _ _ _ _,_,_,_,h=>by simp[cH] at h
 | .sub _ _ _ _ _,_,_,_,h=>by simp[cH] at h
 | .e0 _,_,_,_,h=>by simp[cH] at h
 | .bI _,_,_,_,h=>by simp[cH] at h
 | .fn _ _ _,_,_,_,h=>by simp[cH] at h
 | .iface t v,x,a,hv,h=>by
  rw[VS] at hv;rw[cH] at h;obtain⟨y,rfl,h2⟩:=hv;obtain⟨b,hb,rfl⟩:=au h;rw[js h2 hb]
theorem pj:∀{vs:List SV} {xs aS:List AV},c8 θ ρ vs xs->jL vs=some aS->xs=aS
 | [],xs,aS,hv,h=>by rw[bg] at hv;rw[jL] at h;cases h;exact hv
 | d::ds,xs,aS,hv,h=>by
  rw[aL] at hv;rw[jL] at h;obtain⟨a,r,rfl,h1,h2⟩:=hv;obtain⟨b,hb,h⟩:=bind_eq_some_iff.1 h;obtain⟨bs,hbs,rfl⟩:=au h;rw[js h1 hb,pj h2 hbs]
end
theorem sb{kt:TypeId}{k:AV}:∀(l:List (AV×AV×Nat)) (i:Nat),gz P kt k l i=sa P kt k (l.map (·.1)) i
 | [],_=>rfl
 | e::l,i=>by
  rw[List.map_cons];unfold gz sa
  cases kR P 4 kt k e.1 with
  | none=>rfl
  | some b=>
   cases b
   ·exact sb l (i+1)
   ·rfl
theorem B7{b:Bool}:∀{l:List SV} {x:SV} {xa:AV} {aS:List AV} {v:SV},VS θ ρ x xa->c8 θ ρ l aS->vL b x l=some v->∃a,mE b xa aS=some a/\VS θ ρ v a
 | [],x,xa,aS,v,hx,hl,h=>by
  rw[bg] at hl;subst hl
  have:v=x:=by
   cases x<;>simp only[vL,Option.some.injEq] at h<;>exact h.symm
  subst this;exact⟨xa,rfl,hx⟩
 | y::l,x,xa,aS,v,hx,hl,h=>by
  rw[aL] at hl;obtain⟨ya,r,rfl,h1,h2⟩:=hl
  cases x with
  | a x=>
   cases y with
   | a y=>
    rw[VS] at hx h1;subst hx;subst h1;simp only[vL] at h;obtain⟨z,hz,h⟩:=bind_eq_some_iff.1 h;obtain⟨w,hw,kw⟩:=B7 (x:=.a z) (xa:=z) (by rw[VS]) h2 h;exact⟨w,by simp only[mE,hz,bind_some];exact hw,kw⟩
   | _=>simp[vL] at h
  | _=>simp[vL] at h
end
end
end Go.Ev
