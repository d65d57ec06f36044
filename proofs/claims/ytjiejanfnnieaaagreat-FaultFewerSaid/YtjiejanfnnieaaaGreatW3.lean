/- Lemmas of this claim, each with its conditions. -/
import Derived.Test.YtjiejanfnnieaaaGreatW2
import Derived.Test.YtjiejanfnnieaaaGreatProg
set_option linter.all false
open Nat (beq ble blt)
open Int (ofNat)
open List (mem_map)
open Nat renaming beq_refl -> aa, lt_of_lt_of_le -> aj, mul_le_mul_right -> a8, le_trans -> ba, zero_add -> bb, zero_le -> bc, min_eq_left -> bh, le_refl -> bv, lt_succ_self -> bw, zero_mul -> bB, lt_irrefl -> cc, le_succ_of_le -> cl, sub_zero -> ct, sub_self -> dv, succ_mul -> d0
open Bool renaming and_eq_true -> ac, and_self -> ad, not_false -> aL, true_and -> b7, true_or -> ci, and_true -> cn, or_false -> dc
open List renaming map_cons -> am, getElem?_cons_succ -> ap, getElem?_cons_zero -> ax, getElem?_set_self -> ay, length_map -> aW, getElem?_set_ne -> a0, drop_drop -> a3, eraseIdx_cons_succ -> a4, getElem?_map -> a5, getElem?_eq_none -> a6, length_replicate -> a7, getElem?_append_right -> a9, length_drop -> be, take_zero -> bi, drop_of_length_le -> bk, map_append -> bt, map_nil -> bu, drop_zero -> b0, mem_cons_of_mem -> b6, mem_cons_self -> b8, drop_take -> b9, take_take -> cb, take_of_length_le -> cd, length_take -> ce, all_cons -> cg, getElem?_append -> ch, eraseIdx_nil -> co, flatMap_cons -> cp, head?_drop -> cv, length_set -> cM, nil_append -> c0, mapM_cons -> c5, replicate -> c6, take_one -> dd
open And renaming intro -> bd
open Go.Proofs.Tryz renaming prog -> bN
namespace Go.Ev
noncomputable section
def ua:AV->SV
 | .agg cs=>.ag (cs.map .a)
 | v=>.a v
def cS:SV->Option (List SV)
 | .any=>none
 | .ag cs=>some cs
 | .a (.agg cs)=>some (cs.map .a)
 | v=>some [v]
def eM:SV->Bool
 | .any=>false
 | .a v=>jR v
 | .ag _=>false
 | .cA _=>false
 | _=>true
def aO(o:Nat)(v:SV):SV:=cond (names o v) .any v
def bZ(o:Nat)(f:Fm):Fm:=f.map λp=>(p.1,aO o p.2)
def bI(o:Nat):SO->SO
 | .cells cs=>.cells (cs.map (aO o))
 | .map ks vs b=>.map ks (vs.map (aO o)) b
 | .iter m bs c pos=>.iter (aO o m) bs c pos
 | .oB ks vs bs c pos=>.oB ks vs bs c pos
 | .gone=>.gone
 | .loop c ls p f=>.loop c ls p (bZ o f)
 | .mf N=>.mf N
def eO(f:Fm):Operand->Option SV
 | .tmp i=>if i<1000000 then some (aJ f i) else none
 | .const v=>(lL mD v).map ua
 | .func g=>some (.fn g [] [])
 | .global _=>none
def pL(f:Fm):List Operand->Option (List SV)
 | []=>some []
 | x::l=>(eO f x).bind λa=>(pL f l).map λb=>a::b
def lD(f:Fm):List (Nat×Operand)->Option (List (Nat×SV))
 | []=>some []
 | (i,x)::l=>(eO f x).bind λa=>(lD f l).map λb=>(i,a)::b
def wC(f:Fm):Option Operand->Option (Option AV)
 | none=>some none
 | some x=>match eO f x with
  | some (.a v)=>some (some v)
  | _=>none
def qf{α:Type}(p:Prop)[Decidable p](x:Option α):Option α:=if p then x else none
def G5(P:Program)(t:TypeId):Option (Nat×Bool):=(qq P t).bind λb=>(cG P t).map λn=>(n,b)
def HI(P:Program)(s:TypeId)(f:Nat):Option (Nat×TypeId×Nat):=match P.underlying s with
 | some (.struct fs)=>cond (fs.toList.all λf=>(cG P f.type).isSome) ((fs[f]?).bind λfd=>(cG P fd.type).map λn=>(fd.offset,fd.type,n)) none
 | _=>none
def Pf(P:Program)(t:TypeId):Option (Option Nat):=match P.underlying t with
 | some (.struct fs)=>cond (fs.toList.all λf=>(cG P f.type).isSome) (some none) none
 | some (.array _ e)=>(cG P e).map some
 | _=>none
def Hz(P:Program)(t:TypeId):Option (TypeId×Nat):=match P.underlying t with
 | some (.slice e)=>(cG P e).map λs=>(e,s)
 | _=>none
def QP(P:Program)(t:TypeId):Option (Nat×TypeId×Nat):=match P.underlying t with
 | some (.array n e)=>(cG P e).map λs=>(n,e,s)
 | _=>none
inductive TK where
 | str | sl | map | other
def iR(P:Program)(t:TypeId):TK:=match P.underlying t with
 | some .string=>.str
 | some (.slice _)=>.sl
 | some (.map _ _)=>.map
 | _=>.other
def tE(P:Program)(t:TypeId)(cs:List SV)(off:Nat):Option SV:=(G5 P t).bind λq=>match q.2 with
 | true=>qf (off+q.1<=cs.length) (some (.ag ((cs.drop off).take q.1)))
 | false=>cs[off]?
def sZ(place:Nat->Option (Nat×Nat))(cells:List SV):List (Nat×SV)->Option (List SV)
 | []=>some cells
 | (i,v)::rest=>match place i with
  | none=>none
  | some (off,size)=>(cS v).bind λcs=>
   qf (cs.length=size/\off+size<=cells.length) (sZ place (cells.take off++(cs++cells.drop (off+size))) rest)
def Cm(P:Program)(t:TypeId)(parts:List (Nat×SV)):Option SV:=
 (dq P t).bind λz=>(Pf P t).bind λq=>match q with
  | none=>(sZ (λi=>(HI P t i).map λq=>(q.1,q.2.2)) (z.cells.map .a) parts).map .ag
  | some s=>(sZ (λi=>some (i*s,s)) (z.cells.map .a) parts).map .ag
def nk(P:Program)(t:TypeId)(len:Nat)(parts:List (Nat×SV)):Option (Nat×List SV):=
 (Hz P t).bind λq=>(dq P q.1).bind λz=>
  qf (len*q.2<=16777216/\z.cells.length=q.2/\q.2≠0)
   ((sZ (λi=>some (i*q.2,q.2)) ((rep z.cells len).map .a) parts).map λcs=>(q.2,cs))
mutual
def cU:SV->Option AV
 | .a v=>some v
 | .ag cs=>(iO cs).map .agg
 | .iface t v=>(cU v).map (.iface t)
 | _=>none
def iO:List SV->Option (List AV)
 | []=>some []
 | d::ds=>(cU d).bind λa=>(iO ds).map λb=>a::b
end
def H4:SV->Option Nat
 | .a v=>dj v
 | _=>none
def td(P:Program)(kt:TypeId)(k:AV):List AV->Nat->Option (Option Nat)
 | [],_=>some none
 | e::es,i=>match ll P 4 kt k e with
  | some true=>some (some i)
  | some false=>td P kt k es (i+1)
  | none=>none
def Ao(S:List SO):SV->Option (List AV×List SV)
 | .map o=>match S[o]? with
  | some (.map ks vs _)=>some (ks,vs)
  | _=>none
 | .im ks vs=>some (ks,vs)
 | .a (.map none)=>some ([],[])
 | _=>none
def iZ(P:Program)(S:List SO)(t:TypeId)(x k:SV)(ok:Bool):Option SV:=
 (dB P t).bind λ(kt,et)=>(cU k).bind λk=>cond (wy P kt k)
  ((Ao S x).bind λ(ks,vs)=>(td P kt k ks 0).bind λr=>
   let v:Option (SV×Bool):=match r with
    | some i=>(vs[i]?).map λe=>(e,true)
    | none=>(dq P et).map λz=>(ua z,false)
   v.map λ(v,b)=>cond ok (.cA [v,.a (.bool b)]) v) none
def ij(P:Program)(S:List SO)(t:TypeId)(x k v:SV):Option (List SO):=
 (dB P t).bind λ(kt,_)=>(cU k).bind λk=>cond (wy P kt k)
  (
   match x with
   | .map o=>match S[o]? with
    | some (.map ks vs b)=>(td P kt k ks 0).bind λr=>match r with
     | some i=>(ks[i]?).bind λk0=>cond (stays k k0) (some (S.set o (.map (ks.set i k) (vs.set i v) b))) none
     | none=>some (S.set o (.map (ks++[k]) (vs++[v]) (b.map λp=>(p.1++[p.2],p.2+1))))
    | _=>none
   | _=>none) none
def KQ(P:Program)(S:List SO)(t:TypeId)(x k:SV):Option (List SO):=
 (dB P t).bind λ(kt,_)=>(cU k).bind λk=>cond (wy P kt k)
  (
   match x with
   | .map o=>match S[o]? with
    | some (.map ks vs b)=>(td P kt k ks 0).map λr=>match r with
     | some i=>S.set o (.map (ks.eraseIdx i) (vs.eraseIdx i) (b.map λp=>(p.1.eraseIdx i,p.2)))
     | none=>S
    | _=>none
   | _=>none) none
def yB(P:Program)(S:List SO)(t:TypeId)(x:SV):Option Nat:=match iR P t,x with
 | .str,.a (.str s)=>some s.length
 | .sl,.sl n _ _=>some n
 | .sl,.buf _ n _ _=>some n
 | .sl,.a (.slice none n _ _)=>some n
 | .map,x=>(Ao S x).map λe=>e.1.length
 | .sl,.sub _ _ n _ _=>some n
 | .sl,.e0 _=>some 0
 | _,_=>none
def tP(S:List SO)(s:Nat):SV->Option (Nat×List SV)
 | .sl n e cs=>qf (e=s) (some (n,cs))
 | .buf o n e _=>match S[o]? with
  | some (.cells cs)=>qf (e=s/\n*s<=cs.length) (some (n,cs.take (n*s)))
  | _=>none
 | .a (.slice none 0 0 (some 0))=>some (0,[])
 | .sub o off n e _=>match S[o]? with
  | some (.cells cs)=>qf (e=s/\off+n*s<=cs.length) (some (n,(cs.drop off).take (n*s)))
  | _=>none
 | .e0 _=>some (0,[])
 | _=>none
def cy(o:Nat)(S:List SO):List SO:=S.map (bI o)
def dO(S:List SO)(so:SO):List SO:=cy S.length S++[bI S.length so]
def pc(P:Program)(e:TypeId):Bool:=match P.info? e with
 | some i=>ble i.bytes 10000
 | none=>false
def Mq(S:List SO):SV->Option (SV×List SO×Option Nat)
 | .a (.slice none 0 0 (some 0))=>some (.a (.slice none 0 0 (some 0)),S,none)
 | .buf o n e c=>qf (n<=1000000) (some (.buf o n e c,S,none))
 | .e0 e=>some (.e0 e,S,none)
 | _=>none
def Ky(S:List SO)(s:Nat)(x:SV)(p:Nat×List SV):Option (SV×List SO×Option Nat):=match x with
 | .a (.slice none 0 0 (some 0))=>some (.buf S.length p.1 s none,dO S (.cells p.2),some S.length)
 | .buf o n es none=>match S[o]? with
  | some (.cells cs)=>qf (es=s/\n<=1000000/\n*es<=cs.length)
   (some (.buf o (n+p.1) es none,(cy o S).set o (bI o (.cells (cs.take (n*es)++p.2))),some o))
  | _=>none
 | .e0 e=>qf (e=s) (some (.buf S.length p.1 s none,dO S (.cells p.2),some S.length))
 | .buf o n es (some c)=>match S[o]? with
  | some (.cells cs)=>qf (es=s/\n<=1000000/\n*es<=cs.length/\c<n+p.1)
   (some (.buf S.length (n+p.1) es none,dO S (.cells (cs.take (n*es)++p.2)),some S.length))
  | _=>none
 | _=>none
def isInt(P:Program)(t:TypeId):Bool:=match P.underlying t with
 | some (.int _)=>true
 | _=>false
def xk(P:Program)(S:List SO)(xt:TypeId)(s:Nat)(z:AV)(y:SV):Option (Nat×List SV):=match iR P xt with
 | .sl=>tP S s y
 | .other=>cond (isInt P xt) ((H4 y).bind λn=>qf (n<=1000000) (some (n,(rep z.cells n).map .a))) none
 | _=>none
def wS(P:Program)(S:List SO)(st xt:TypeId)(x y:SV):Option (SV×List SO×Option Nat):=
 (Hz P st).bind λq=>(dq P q.1).bind λz=>qf (z.cells.length=q.2/\q.2≠0/\pc P q.1=true)
  ((xk P S xt q.2 z y).bind λp=>if p.1=0 then Mq S x else qf (p.1<=1000000/\p.2.all eM=true) (Ky S q.2 x p))
def AA(isMax:Bool):SV->List SV->Option SV
 | x,[]=>some x
 | .a x,.a y::l=>(yJ isMax x y).bind λz=>AA isMax (.a z) l
 | _,_=>none
def Sq:SV->Option (Nat×Nat×Nat×Nat)
 | .buf o n e _=>some (o,0,n,e)
 | .sub o off n e _=>some (o,off,n,e)
 | _=>none
def MT(S:List SO)(s o off des:Nat)(rows:List SV)(n:Nat):Option (SV×List SO×Option Nat):=
 if n=0 then some (.a (.int .i64 0),S,none) else match S[o]? with
  | some (.cells cs)=>qf (des=s/\off+n*s<=cs.length/\n*s<=rows.length/\(rows.take (n*s)).all eM=true)
   (some (.a (.int .i64 (n:Nat)),S.set o (.cells (cs.take off++(rows.take (n*s)++cs.drop (off+n*s)))),none))
  | _=>none
def Jy(P:Program)(S:List SO)(t:TypeId)(x y:SV):Option (SV×List SO×Option Nat):=(Hz P t).bind λq=>(Sq x).bind λ(o,off,dl,des)=>(tP S q.2 y).bind λp=>
 MT S q.2 o off des p.2 (Nat.min p.1 dl)
def Cp(P:Program)(S:List SO)(t:TypeId)(x:SV):Option (SV×List SO×Option Nat):=(Hz P t).bind λq=>(dq P q.1).bind λz=>(Sq x).bind λ(o,off,n,es)=>
 if n=0 then some (.a lH,S,none) else match S[o]? with
  | some (.cells cs)=>qf (es=q.2/\z.cells.length=q.2/\off+n*q.2<=cs.length/\(rep z.cells n).all jR=true)
   (some (.a lH,S.set o (.cells (cs.take off++((rep z.cells n).map .a++cs.drop (off+n*q.2)))),none))
  | _=>none
def Hq:SV->Option Nat
 | .a (.slice none 0 0 (some 0))=>some 0
 | .buf _ _ _ (some c)=>some c
 | .sub _ _ _ _ (some c)=>some c
 | .e0 _=>some 0
 | _=>none
def gH(P:Program)(S:List SO)(b:Builtin)(ats:List TypeId)(xs:List SV):Option (SV×List SO×Option Nat):=match b,ats,xs with
 | .append,st::xt::_,[x,y]=>wS P S st xt x y
 | .len,t::_,x::_=>(yB P S t x).map λ(n:Nat)=>((SV.a (.int .i64 (n:Int)),S,none):SV×List SO×Option Nat)
 | .min,_,x::l=>(AA false x l).map λv=>(v,S,none)
 | .max,_,x::l=>(AA true x l).map λv=>(v,S,none)
 | .delete,t::_,x::k::_=>(KQ P S t x k).map λS=>(.a lH,S,none)
 | .copy,dt::_,[x,y]=>Jy P S dt x y
 | .clear,t::_,[x]=>Cp P S t x
 | .cap,t::_,[x]=>(Hz P t).bind λ_=>(Hq x).map λ(c:Nat)=>((SV.a (.int .i64 (c:Int)),S,none):SV×List SO×Option Nat)
 | _,_,_=>none
def J0:Option SV->Option SV->Option SV->Option SV
 | some (.a (.bool z)),some x,some y=>some (cond z x y)
 | _,_,_=>none
def yC(P:Program)(S:List SO)(tt:TypeId):SV->Option SV
 | .ptr o off=>match S[o]? with
  | some (.cells cs)=>tE P tt cs off
  | _=>none
 | .ip cs=>tE P tt cs 0
 | _=>none
def Dj(P:Program)(S:List SO)(tt:TypeId)(a x:SV):Option (List SO):=match a with
 | .ptr o off=>match S[o]? with
  | some (.cells cs)=>(G5 P tt).bind λq=>(cS x).bind λvs=>
   qf (vs.length=q.1/\off+q.1<=cs.length/\vs.all eM=true) (some (S.set o (.cells (cs.take off++(vs++cs.drop (off+q.1))))))
  | _=>none
 | _=>none
def aR(P:Program):SV->Option SV
 | .ptr o off=>some (.ptr o off)
 | .ip cs=>some (.ip cs)
 | .fn g a b=>some (.fn g a b)
 | .sl n e cs=>some (.sl n e cs)
 | .buf o n e c=>some (.buf o n e c)
 | .sub o off n e c=>some (.sub o off n e c)
 | .e0 e=>some (.e0 e)
 | .a (.fn (.method nm) [.iface t v] ys)=>(ja P t nm).map λ_=>.a (.fn (.method nm) [.iface t v] ys)
 | _=>none
def ph(P:Program)(s:TypeId)(x:SV)(f:Nat):Option SV:=(HI P s f).bind λq=>qf (q.2.2≠0) (match x with
 | .ptr o off=>some (.ptr o (off+q.1))
 | .ip cs=>qf (q.1<=cs.length) (some (.ip (cs.drop q.1)))
 | _=>none)
def yc(P:Program)(s:TypeId)(x:SV)(f:Nat):Option SV:=match x with
 | .ag cs=>(HI P s f).bind λq=>tE P q.2.1 cs q.1
 | _=>none
def pz(P:Program)(t:TypeId)(x:SV)(i:SV):Option SV:=(H4 i).bind λi=>match QP P t with
 | some q=>qf (i<q.1) (match x with
  | .ptr o off=>some (.ptr o (off+i*q.2.2))
  | .ip cs=>qf (i*q.2.2<=cs.length) (some (.ip (cs.drop (i*q.2.2))))
  | _=>none)
 | none=>(Hz P t).bind λq=>match x with
  | .sl n es cs=>qf (i<n/\q.2=es) (some (.ip ((cs.drop (i*q.2)).take q.2)))
  | .buf o n es _=>qf (i<n/\q.2=es) (some (.ptr o (i*q.2)))
  | .sub o off n es _=>qf (i<n/\q.2=es) (some (.ptr o (off+i*q.2)))
  | _=>none
def CJ(P:Program)(t:TypeId)(x:SV)(i:SV):Option SV:=(H4 i).bind λi=>match x with
 | .ag cs=>(QP P t).bind λq=>qf (i<q.1) (tE P q.2.1 cs (i*q.2.2))
 | .a (.str s)=>match iR P t with
  | .str=>(s[i]?).map λb=>.a (.int .u8 (ofNat b))
  | _=>none
 | _=>none
def mU(P:Program)(t:TypeId)(x:SV)(lo hi mx:Option AV):Option SV:=match iR P t,x with
 | .str,.a (.str s)=>match mx with
  | some _=>none
  | none=>(cQ s.length (some s.length) lo hi none).map λ(l,hh,_)=>.a (.str ((s.drop l).take (hh-l)))
 | .sl,.sl n es cs=>match mx with
  | some m=>(Hz P t).bind λq=>qf (lo=none/\hi.bind dj=some 0/\dj m=some 0/\q.2=es) (some (.e0 q.2))
  | none=>(Hz P t).bind λq=>(cQ n none lo hi none).bind λ(l,hh,_)=>qf (q.2=es) (some (.sl (hh-l) q.2 ((cs.drop (l*q.2)).take ((hh-l)*q.2))))
 | .sl,.buf o n es c=>match mx with
  | some _=>none
  | none=>(Hz P t).bind λq=>(cQ n c lo hi none).bind λ(l,hh,m)=>qf (q.2=es) (some (match lo with
   | none=>.buf o (hh-l) q.2 (bn m l)
   | some _=>.sub o (l*q.2) (hh-l) q.2 (bn m l)))
 | .sl,.sub o off n es c=>match mx with
  | some _=>none
  | none=>(Hz P t).bind λq=>(cQ n c lo hi none).bind λ(l,hh,m)=>qf (q.2=es) (some (.sub o (off+l*q.2) (hh-l) q.2 (bn m l)))
 | .sl,.a (.slice none 0 0 (some 0))=>(Hz P t).bind λ_=>(cQ 0 (some 0) lo hi mx).map λ_=>.a (.slice none 0 0 (some 0))
 | .sl,.e0 e=>(Hz P t).bind λq=>(cQ 0 (some 0) lo hi mx).bind λ(l,hh,m)=>qf (l=0/\hh=0/\m=some 0/\q.2=e) (some (.e0 e))
 | _,_=>none
def JI(P:Program)(t:TypeId):Bool:=match P.underlying t with
 | some (.interface _)=>false
 | some _=>true
 | none=>false
def dx(P:Program)(f:Fm)(S:List SO)(op:Op):Option (SV×List SO×Option Nat):=match op with
 | .move x=>(eO f x).map λv=>(v,S,none)
 | .assign x=>(eO f x).map λv=>(v,S,none)
 | .pick c a b=>(J0 (eO f c) (eO f a) (eO f b)).map λv=>(v,S,none)
 | .alloc e=>(dq P e).map λz=>(.ptr S.length 0,dO S (.cells (z.cells.map .a)),some S.length)
 | .box _ x=>(eO f x).bind λv=>(cS v).map λcs=>(.ptr S.length 0,dO S (.cells cs),some S.length)
 | .build tt ps=>(lD f ps.toList).bind λl=>(Cm P tt l).map λv=>(v,S,none)
 | .buildSlice tt n ps=>(lD f ps.toList).bind λl=>(nk P tt n l).map λq=>(.buf S.length n q.1 (some n),dO S (.cells q.2),some S.length)
 | .makeMap _ none=>some (.map S.length,dO S (.map [] [] none),some S.length)
 | .makeSlice tt l c=>match eO f l,eO f c with
  | some (.a l),some (.a c)=>(ki P tt l c).map λq=>(.buf S.length q.1 q.2.1 (some q.2.2.1),dO S (.cells (q.2.2.2.map .a)),some S.length)
  | _,_=>none
 | .load tt a=>(eO f a).bind λa=>(yC P S tt a).map λv=>(v,S,none)
 | .store tt a x=>(eO f a).bind λa=>(eO f x).bind λx=>(Dj P S tt a x).map λS=>(.a lH,S,none)
 | .nilCheck x=>(eO f x).bind λx=>(aR P x).map λv=>(v,S,none)
 | .binOp op t x y _=>(eO f x).bind λx=>(eO f y).bind λy=>(cU x).bind λx=>(cU y).bind λy=>(dk P op t x y).map λv=>(.a v,S,none)
 | .unOp op _ x=>(eO f x).bind λx=>(cU x).bind λx=>(Sk op x).map λv=>(.a v,S,none)
 | .convert s d x=>(eO f x).bind λx=>(cU x).bind λx=>(mC P s d x).map λv=>(.a v,S,none)
 | .makeInterface t x=>cond (JI P t) ((eO f x).map λv=>(.iface t v,S,none)) none
 | .makeFunc (.func g) first cap=>(pL f first.toList).bind λa=>(pL f cap.toList).map λb=>(.fn g a b,S,none)
 | .slice tt x lo hi mx=>(eO f x).bind λx=>(wC f lo).bind λlo=>(wC f hi).bind λhi=>(wC f mx).bind λmx=>(mU P tt x lo hi mx).map λv=>(v,S,none)
 | .fieldAddr s x fl=>(eO f x).bind λx=>(ph P s x fl).map λv=>(v,S,none)
 | .field s x fl=>(eO f x).bind λx=>(yc P s x fl).map λv=>(v,S,none)
 | .indexAddr t x i=>(eO f x).bind λx=>(eO f i).bind λi=>(pz P t x i).map λv=>(v,S,none)
 | .index t x i=>(eO f x).bind λx=>(eO f i).bind λi=>(CJ P t x i).map λv=>(v,S,none)
 | .lookup t x k ok=>(eO f x).bind λx=>(eO f k).bind λk=>(iZ P S t x k ok).map λv=>(v,S,none)
 | .mapUpdate t m k x=>(eO f m).bind λm=>(eO f k).bind λk=>(eO f x).bind λx=>(ij P S t m k x).map λS=>(.a lH,S,none)
 | .insert t m k x=>(eO f m).bind λm=>(eO f k).bind λk=>(eO f x).bind λx=>(ij P S t m k x).map λS=>(.a lH,S,none)
 | .extract x i=>match eO f x with
  | some (.cA vs)=>(vs[i]?).map λv=>(v,S,none)
  | _=>none
 | .call { callee:=.builtin b,args:=aS,argTypes:=ats }=>(pL f aS.toList).bind λxs=>gH P S b ats.toList xs
 | .makeFunc (.method nm) first cap=>(pL f first.toList).bind λa=>(iO a).bind λa=>(pL f cap.toList).bind λb=>(iO b).map λb=>(.a (.fn (.method nm) a b),S,none)
 | _=>none
def jF(k:Option Nat)(v:SV):SV:=match k with
 | none=>v
 | some o=>aO o v
def ly(f:Fm)(kill:Option Nat):Fm:=match kill with
 | none=>f
 | some o=>bZ o f
def po(f:Fm)(kill:Option Nat)(dst:Option Tmp)(v:SV):Fm:=match dst with
 | none=>ly f kill
 | some d=>(d,v)::ly f kill
section
variable {θ:Nat->Loc} {ρ:jY} {P:Program}
theorem db.a:∀(aS:List AV),db θ ρ (aS.map .a) aS
 | []=>by rw[bu,bl]
 | a::aS=>by rw[am,aN];exact⟨a,aS,rfl,by rw[VS],db.a aS⟩
def ze(v:AV):VS θ ρ (ua v) v:=by
 unfold ua;split
 ·rw[VS];exact⟨_,rfl,db.a _⟩
 ·rw[VS]
variable{f:Fm}{af:Nat->AV}{n:Nat}{wv:Nat->AV}{v:SV}
def bT(hF:FR θ ρ (aJ f) af n wv){x:Operand}(h:eO f x=some v):∃a,ev (ei af n) x=some a/\VS θ ρ v a:=by
 cases x with
 | tmp i=>
  simp only[eO] at h
  have hlim:i<1000000:=by
   apply Decidable.byContradiction;intro hn;rw[v6 hn] at h;cases h
  rw[ut hlim] at h;cases h;have:=hF.v i;by_cases hi:i<n
  ·rw[ut hi] at this;exact⟨_,RB hi,this⟩
  ·rw[v6 hi,hF.u i hlim] at this
   exact⟨lH,by
    have:(ei af n).get i=none:=zh af n i (Nat.le_of_not_lt hi)
    simp only[ev,this],this⟩
 | const c=>
  simp only[eO] at h;obtain⟨a,ha,rfl⟩:=aw h;exact⟨a,ha,ze a⟩
 | func g=>
  simp only[eO,qr] at h;subst h;exact⟨_,Px,by rw[VS];exact⟨[],[],rfl,by rw[bl],by rw[bl]⟩⟩
 | global g=>simp[eO] at h
def l7{f:Fm}{af:Nat->AV}{n:Nat}{wv:Nat->AV}(hF:FR θ ρ (aJ f) af n wv):∀{l:List Operand} {vs:List SV},pL f l=some vs->∃aS,Ap (ei af n) l=some aS/\db θ ρ vs aS
 | [],vs,h=>by
  simp only[pL,qr] at h;subst h;exact⟨[],rfl,by rw[bl]⟩
 | x::l,vs,h=>by
  rw[pL] at h;obtain⟨v,hv,h⟩:=ul h;obtain⟨ws,hw,rfl⟩:=aw h;obtain⟨a,ha,ka⟩:=bT hF hv;obtain⟨aS,hs,ks⟩:=l7 hF hw;exact⟨a::aS,by rw[M6,ha,hs];rfl,by rw[aN];exact⟨a,aS,rfl,ka,ks⟩⟩
def SA(θ:Nat->Loc)(ρ:jY):List (Nat×SV)->List (Nat×AV)->Prop
 | [],aS=>aS=[]
 | (i,v)::l,aS=>∃a r,aS=(i,a)::r/\VS θ ρ v a/\SA θ ρ l r
def vn{f:Fm}{af:Nat->AV}{n:Nat}{wv:Nat->AV}(hF:FR θ ρ (aJ f) af n wv):∀{l:List (Nat×Operand)} {vs:List (Nat×SV)},lD f l=some vs->∃aS,lC (ei af n) l=some aS/\SA θ ρ vs aS
 | [],vs,h=>by
  simp only[lD,qr] at h;subst h;exact⟨[],rfl,rfl⟩
 | (i,x)::l,vs,h=>by
  rw[lD] at h;obtain⟨v,hv,h⟩:=ul h;obtain⟨ws,hw,rfl⟩:=aw h;obtain⟨a,ha,ka⟩:=bT hF hv;obtain⟨aS,hs,ks⟩:=vn hF hw;exact⟨(i,a)::aS,by rw[FV,ha,hs];rfl,a,aS,rfl,ka,ks⟩
def Dh(hF:FR θ ρ (aJ f) af n wv){o:Option Operand}{v:Option AV}(h:wC f o=some v):M5 (ei af n) o=some v:=by
 cases o with
 | none=>simp only[wC,qr] at h;subst h;rfl
 | some x=>
  simp only[wC] at h;split at h
  ·rename_i w hw;cases h;obtain⟨a,ha,ka⟩:=bT hF hw;rw[VS] at ka;subst ka;simp only[M5,ha,m6]
  ·cases h
def cells_one{v:AV}(h:∀cs,v≠.agg cs):v.cells=[v]:=by
 cases v<;>first | rfl | exact un rfl (h _)
variable{x:AV}{cs:List SV}
def uI(hv:VS θ ρ v x)(h:cS v=some cs):db θ ρ cs x.cells:=by
 have one:∀{w:SV},VS θ ρ w x->(∀cs,x≠.agg cs)->db θ ρ [w] x.cells:=by
  intro w hw hx;rw[cells_one hx,aN];exact⟨x,[],rfl,hw,by rw[bl]⟩
 cases v with
 | any=>simp[cS] at h
 | a v=>
  have hv':=hv;rw[VS] at hv;subst hv
  cases x with
  | agg cs'=>simp only[cS,qr] at h;subst h;exact db.a _
  | _=>simp only[cS,qr] at h;subst h;exact one hv' (λ_ h=>by cases h)
 | ag cs'=>
  simp only[cS,qr] at h;subst h;rw[VS] at hv;obtain⟨aS,rfl,h2⟩:=hv;exact h2
 | sl n e cs'=>
  simp only[cS,qr] at h;subst h;refine one hv ?_;rw[VS,GS] at hv
  rcases hv with⟨_,_,o,e',c,rfl,_,_⟩ | ⟨id,off,cap,row,rfl,_⟩<;>exact λ_ h=>by cases h
 | im ks vs=>
  simp only[cS,qr] at h;subst h;refine one hv ?_;rw[VS,GS] at hv;obtain⟨id,l,c,rfl,_⟩:=hv
  exact λ_ h=>by cases h
 | ip cs'=>
  simp only[cS,qr] at h;subst h;refine one hv ?_;rw[VS,GS] at hv;obtain⟨id,off,row,r,rfl,_⟩:=hv
  exact λ_ h=>by cases h
 | ptr o off=>
  simp only[cS,qr] at h;subst h;refine one hv ?_
  rw[VS] at hv;subst hv;exact λ_ h=>by cases h
 | map o=>
  simp only[cS,qr] at h;subst h;refine one hv ?_
  rw[VS] at hv;subst hv;exact λ_ h=>by cases h
 | buf o n e c=>
  simp only[cS,qr] at h;subst h;refine one hv ?_
  rw[VS] at hv;subst hv;exact λ_ h=>by cases h
 | sub o off n e c=>
  simp only[cS,qr] at h;subst h;refine one hv ?_
  rw[VS] at hv;subst hv;exact λ_ h=>by cases h
 | e0 e=>
  simp only[cS,qr] at h;subst h;refine one hv ?_
  rw[VS] at hv;obtain⟨o,e',rfl,_⟩:=hv;exact λ_ h=>by cases h
 | cA vs=>
  simp only[cS,qr] at h;subst h;refine one hv ?_
  rw[VS] at hv;obtain⟨aS,rfl,_⟩:=hv;exact λ_ h=>by cases h
 | fn g a b=>
  simp only[cS,qr] at h;subst h;refine one hv ?_
  rw[VS] at hv;obtain⟨aS,bs,rfl,_⟩:=hv;exact λ_ h=>by cases h
 | iface t v=>
  simp only[cS,qr] at h;subst h;refine one hv ?_
  rw[VS] at hv;obtain⟨y,rfl,_⟩:=hv;exact λ_ h=>by cases h
def Qb(hv:VS θ ρ v x)(h:eM v=true):jR x=true:=by
 cases v with
 | any=>simp[eM] at h
 | a v=>rw[VS] at hv;subst hv;exact h
 | ag cs=>simp[eM] at h
 | cA cs=>simp[eM] at h
 | sl n e cs=>rw[VS,GS] at hv;rcases hv with⟨_,_,o,e',c,rfl,_,_⟩ | ⟨id,off,cap,row,rfl,_⟩<;>rfl
 | im ks vs=>rw[VS,GS] at hv;obtain⟨id,l,c,rfl,_⟩:=hv;rfl
 | ip cs=>rw[VS,GS] at hv;obtain⟨id,off,row,r,rfl,_⟩:=hv;rfl
 | ptr o off=>rw[VS] at hv;subst hv;rfl
 | map o=>rw[VS] at hv;subst hv;rfl
 | buf o n e c=>rw[VS] at hv;subst hv;rfl
 | sub o off n e c=>rw[VS] at hv;subst hv;rfl
 | e0 e=>rw[VS] at hv;obtain⟨o,e',rfl,_⟩:=hv;rfl
 | fn g a b=>rw[VS] at hv;obtain⟨aS,bs,rfl,_⟩:=hv;rfl
 | iface t v=>rw[VS] at hv;obtain⟨y,rfl,_⟩:=hv;rfl
def ma:∀{vs:List SV} {xs:List AV},db θ ρ vs xs->vs.all eM=true->xs.all jR=true
 | [],xs,hv,_=>by rw[bl] at hv;subst hv;rfl
 | d::ds,xs,hv,h=>by
  rw[aN] at hv;obtain⟨a,r,rfl,h1,h2⟩:=hv;rw[cg,ac] at h ⊢;exact⟨Qb h1 h.1,ma h2 h.2⟩
def cu{α:Type}{p:Prop}[Decidable p]{x:Option α}{y:α}(h:qf p x=some y):p/\x=some y:=by
 unfold qf at h;split at h
 ·rename_i hp;exact⟨hp,h⟩
 ·cases h
variable{t:TypeId}
def ur{q:Nat×Bool}(h:G5 P t=some q):qq P t=some q.2/\cG P t=some q.1:=by
 unfold G5 at h;obtain⟨b,hb,h⟩:=ul h;obtain⟨n,hn,rfl⟩:=aw h;exact⟨hb,hn⟩
def uP{s:TypeId}{f:Nat}{q:Nat×TypeId×Nat}(h:HI P s f=some q):∃fs fd,P.underlying s=some (.struct fs)/\fs.toList.all (λf=>(cG P f.type).isSome)=true/\fs[f]?=some fd/\cG P fd.type=some q.2.2/\fd.offset=q.1/\fd.type=q.2.1:=by
 unfold HI at h;split at h
 ·rename_i fs hu;obtain⟨hb,h⟩:=aH h;obtain⟨fd,hfd,h⟩:=ul h;obtain⟨n,hn,rfl⟩:=aw h;exact⟨fs,fd,hu,hb,hfd,hn,rfl,rfl⟩
 ·cases h
def gj{q:TypeId×Nat}(h:Hz P t=some q):P.underlying t=some (.slice q.1)/\cG P q.1=some q.2:=by
 unfold Hz at h;split at h
 ·rename_i e hu;obtain⟨n,hn,rfl⟩:=aw h;exact⟨hu,hn⟩
 ·cases h
def Es{q:Nat×TypeId×Nat}(h:QP P t=some q):P.underlying t=some (.array q.1 q.2.1)/\cG P q.2.1=some q.2.2:=by
 unfold QP at h;split at h
 ·rename_i n e hu;obtain⟨s,hs,rfl⟩:=aw h;exact⟨hu,hs⟩
 ·cases h
def yA(h:iR P t=.str):P.underlying t=some .string:=by
 unfold iR at h
 split at h<;>first | assumption | cases h
def pC(h:iR P t=.sl):∃e,P.underlying t=some (.slice e):=by
 unfold iR at h
 split at h<;>first | exact⟨_,by assumption⟩ | cases h
def Nu(h:iR P t=.map):∃k e,P.underlying t=some (.map k e):=by
 unfold iR at h
 split at h<;>first | exact⟨_,_,by assumption⟩ | cases h
variable{aS:List AV}
def tF(hv:db θ ρ cs aS){off:Nat}(h:tE P t cs off=some v):∃a,eZ P t aS off=some a/\VS θ ρ v a:=by
 unfold tE at h;obtain⟨q,hq,h⟩:=ul h;obtain⟨h1,h2⟩:=ur hq;obtain⟨n,b⟩:=q;unfold eZ;simp only at h1 h2 h;rw[h1];cases b
 ·exact hv.get h
 ·simp only at h ⊢;obtain⟨hle,h⟩:=cu h;cases h;rw[h2,m7,hv.length,fc hle,an];exact⟨_,rfl,by rw[VS];exact⟨_,rfl,(hv.drop off).take n⟩⟩
variable{h:H}{id:Nat}
def Bz(hr:rM h.aV id=some aS)(t:TypeId)(off:Nat):h.load P t id off=eZ P t aS off:=by
 unfold H.load eZ H.chunk;unfold rM at hr
 cases ho:h.aV.get id with
 | none=>rw[ho] at hr;cases hr
 | some ob=>
  rw[ho] at hr
  cases ob with
  | cells cs cf=>
   have hr:some cs=some aS:=hr;cases hr
   cases qq P t with
   | none=>rfl
   | some b=>
    cases b
    ·rfl
    ·simp only
     cases cG P t with
     | none=>rfl
     | some n=>simp only[m7];cases ble (off+n) aS.length<;>rfl
  | ro cs=>
   have hr:some cs=some aS:=hr;cases hr
   cases qq P t with
   | none=>rfl
   | some b=>
    cases b
    ·rfl
    ·simp only
     cases cG P t with
     | none=>rfl
     | some n=>simp only[m7];cases ble (off+n) aS.length<;>rfl
  | _=>cases hr
def Lx{row:List AV}{off r k:Nat}(hl:off+r<=row.length){v:AV}(h:eZ P t ((row.drop off).take r) k=some v):eZ P t row (off+k)=some v:=by
 unfold eZ at h ⊢;split at h
 ·obtain⟨n,hn,h⟩:=ul h;obtain⟨hb,h⟩:=aH h;cases h;have hb:=md hb;rw[ce,be] at hb;rw[hn,m7,fc (show off+k+n<=row.length by omega),an,b9,cb,a3,bh i4]
 ·rw[List.getElem?_take] at h;split at h
  ·rw[List.getElem?_drop] at h;exact h
  ·cases h
 ·cases h
def ta{place:Nat->Option (Nat×Nat)}:∀{parts:List (Nat×SV)} {ps:List (Nat×AV)} {cells:List SV} {aS:List AV} {out:List SV},SA θ ρ parts ps->db θ ρ cells aS->sZ place cells parts=some out->∃o,jT place aS ps=some o/\db θ ρ out o
 | [],ps,cells,aS,out,hp,hc,h=>by
  have hp:ps=[]:=hp;subst hp;simp only[sZ,qr] at h;subst h;exact⟨aS,rfl,hc⟩
 | (i,v)::l,ps,cells,aS,out,hp,hc,h=>by
  obtain⟨a,r,rfl,h1,h2⟩:=hp;simp only[sZ] at h;simp only[jT];split at h
  ·cases h
  ·rename_i off size hpl;rw[hpl];simp only;obtain⟨cs,hcs,h⟩:=ul h;obtain⟨⟨hb1,hb2⟩,h⟩:=cu h;have k:=uI h1 hcs;subst hb1;rw[k.length,hc.length,aa,fc hb2,ad,an];exact ta h2 ((hc.take off).app (k.app (hc.drop _))) h
def vA{p q:Nat->Option (Nat×Nat)}(hpq:∀i,(p i).isSome=true->q i=p i):∀{ps:List (Nat×AV)} {aS o:List AV},jT p aS ps=some o->jT q aS ps=some o
 | [],aS,o,h=>h
 | (i,v)::l,aS,o,h=>by
  simp only[jT] at h ⊢
  cases hp:p i with
  | none=>rw[hp] at h;cases h
  | some x=>
   obtain⟨off,size⟩:=x;rw[hpq i (by rw[hp];rfl),hp];rw[hp] at h;simp only at h ⊢;obtain⟨hb,h⟩:=aH h;rw[hb,an];exact vA hpq h
def KD{parts:List (Nat×SV)}{ps:List (Nat×AV)}(hp:SA θ ρ parts ps)(h:Cm P t parts=some v):∃a,uH P t ps=some a/\VS θ ρ v a:=by
 unfold Cm at h;unfold uH;obtain⟨z,hz,h⟩:=ul h;obtain⟨q,hq,h⟩:=ul h;rw[hz,m7];unfold Pf at hq;split at hq
 ·rename_i fs hu;obtain⟨hb,hq⟩:=aH hq;cases hq;simp only at h;obtain⟨o,ho,rfl⟩:=aw h;obtain⟨w,hw,kw⟩:=ta hp (db.a z.cells) ho
  have hw:=vA (q:=vf P fs) (λi hi=>by
   cases hf:HI P t i with
   | none=>rw[hf] at hi;cases hi
   | some q=>
    obtain⟨fs',fd,e1,_,e3,e4,e5,_⟩:=uP hf;rw[hu] at e1;cases e1;unfold vf
    rw[e3,m7,e4,m6,e5];rfl) hw
  rw[hu];simp only;rw[hb,an,hw];exact⟨_,rfl,by rw[VS];exact⟨_,rfl,kw⟩⟩
 ·rename_i n e hu;obtain⟨s,hs,rfl⟩:=aw hq;simp only at h;obtain⟨o,ho,rfl⟩:=aw h;obtain⟨w,hw,kw⟩:=ta hp (db.a z.cells) ho;rw[hu];simp only;rw[hs,m7,hw];exact⟨_,rfl,by rw[VS];exact⟨_,rfl,kw⟩⟩
 ·cases hq
def xM{len:Nat}{parts:List (Nat×SV)}{ps:List (Nat×AV)}(hp:SA θ ρ parts ps){q:Nat×List SV}(h:nk P t len parts=some q):∃cs,gG P t len ps=some (q.1,cs)/\db θ ρ q.2 cs:=by
 unfold nk at h;unfold gG;obtain⟨el,hel,h⟩:=ul h;obtain⟨z,hz,h⟩:=ul h;obtain⟨⟨b1,b2,b3⟩,h⟩:=cu h;obtain⟨o,ho,rfl⟩:=aw h;obtain⟨hu,hs⟩:=gj hel;obtain⟨w,hw,kw⟩:=ta hp (db.a (rep z.cells len)) ho
 have hb0:beq el.2 0=false:=by
  cases hb:beq el.2 0
  ·rfl
  ·exact un (cV hb) b3
 rw[hu];simp only;rw[hs,m7,hz,m7,fc b1,b2,aa,hb0];simp only[aL,ad,an];rw[hw];exact⟨w,rfl,kw⟩
mutual
def jA:∀{v:SV} {x a:AV},VS θ ρ v x->cU v=some a->x=a
 | .a v,x,a,hv,h=>by rw[VS] at hv;rw[cU] at h;cases h;exact hv
 | .ag cs,x,a,hv,h=>by
  rw[VS] at hv;rw[cU] at h;obtain⟨aS,rfl,h2⟩:=hv;obtain⟨bs,hb,rfl⟩:=aw h;rw[oq h2 hb]
 | .any,_,_,_,h=>by simp[cU] at h
 | .sl _ _ _,_,_,_,h=>by simp[cU] at h
 | .im _ _,_,_,_,h=>by simp[cU] at h
 | .ip _,_,_,_,h=>by simp[cU] at h
 | .ptr _ _,_,_,_,h=>by simp[cU] at h
 | .map _,_,_,_,h=>by simp[cU] at h
 | .buf _ _ _ _,_,_,_,h=>by simp[cU] at h
 | .sub _ _ _ _ _,_,_,_,h=>by simp[cU] at h
 | .e0 _,_,_,_,h=>by simp[cU] at h
 | .cA _,_,_,_,h=>by simp[cU] at h
 | .fn _ _ _,_,_,_,h=>by simp[cU] at h
 | .iface t v,x,a,hv,h=>by
  rw[VS] at hv;rw[cU] at h;obtain⟨y,rfl,h2⟩:=hv;obtain⟨b,hb,rfl⟩:=aw h;rw[jA h2 hb]
def oq:∀{vs:List SV} {xs aS:List AV},db θ ρ vs xs->iO vs=some aS->xs=aS
 | [],xs,aS,hv,h=>by rw[bl] at hv;rw[iO] at h;cases h;exact hv
 | d::ds,xs,aS,hv,h=>by
  rw[aN] at hv;rw[iO] at h;obtain⟨a,r,rfl,h1,h2⟩:=hv;obtain⟨b,hb,h⟩:=ul h;obtain⟨bs,hbs,rfl⟩:=aw h;rw[jA h1 hb,oq h2 hbs]
end
def tf{kt:TypeId}{k:AV}:∀(l:List (AV×AV×Nat)) (i:Nat),gL P kt k l i=td P kt k (l.map (·.1)) i
 | [],_=>rfl
 | e::l,i=>by
  rw[am];unfold gL td
  cases ll P 4 kt k e.1 with
  | none=>rfl
  | some b=>
   cases b
   ·exact tf l (i+1)
   ·rfl
def CX{b:Bool}:∀{l:List SV} {x:SV} {xa:AV} {aS:List AV} {v:SV},VS θ ρ x xa->db θ ρ l aS->AA b x l=some v->∃a,nv b xa aS=some a/\VS θ ρ v a
 | [],x,xa,aS,v,hx,hl,h=>by
  rw[bl] at hl;subst hl
  have:v=x:=by
   cases x<;>simp only[AA,qr] at h<;>exact h.symm
  subst this;exact⟨xa,rfl,hx⟩
 | y::l,x,xa,aS,v,hx,hl,h=>by
  rw[aN] at hl;obtain⟨ya,r,rfl,h1,h2⟩:=hl
  cases x with
  | a x=>
   cases y with
   | a y=>
    rw[VS] at hx h1;subst hx;subst h1;simp only[AA] at h;obtain⟨z,hz,h⟩:=ul h;obtain⟨w,hw,kw⟩:=CX (x:=.a z) (xa:=z) (by rw[VS]) h2 h;exact⟨w,by simp only[nv,hz,m7];exact hw,kw⟩
   | _=>simp[AA] at h
  | _=>simp[AA] at h
end
section
variable {θ θ':Nat->Loc} {ρ ρ0:jY} {P:Program}
mutual
def VS.ids(hθ:∀p,(θ' p).id=(θ p).id):∀{v:SV} {x:AV},VS θ ρ v x->VS θ' ρ v x
 | .any,_,_=>by rw[VS];trivial
 | .a v,x,h=>by rw[VS] at h ⊢;exact h
 | .sl n e cs,x,h=>by rw[VS] at h ⊢;exact h
 | .im ks vs,x,h=>by rw[VS] at h ⊢;exact h
 | .ip cs,x,h=>by rw[VS] at h ⊢;exact h
 | .ptr p _,_,h=>by rw[VS] at h ⊢;rw[hθ p];exact h
 | .map p,_,h=>by rw[VS] at h ⊢;rw[hθ p];exact h
 | .buf p _ _ _,_,h=>by rw[VS] at h ⊢;rw[hθ p];exact h
 | .sub p _ _ _ _,_,h=>by rw[VS] at h ⊢;rw[hθ p];exact h
 | .e0 e,x,h=>by rw[VS] at h ⊢;exact h
 | .ag cs,x,h=>by rw[VS] at h ⊢;obtain⟨aS,h1,h2⟩:=h;exact⟨aS,h1,db.ids hθ h2⟩
 | .cA cs,x,h=>by rw[VS] at h ⊢;obtain⟨aS,h1,h2⟩:=h;exact⟨aS,h1,db.ids hθ h2⟩
 | .fn g f c,x,h=>by rw[VS] at h ⊢;obtain⟨xs,ys,h1,h2,h3⟩:=h;exact⟨xs,ys,h1,db.ids hθ h2,db.ids hθ h3⟩
 | .iface t v,x,h=>by rw[VS] at h ⊢;obtain⟨y,h1,h2⟩:=h;exact⟨y,h1,VS.ids hθ h2⟩
def db.ids(hθ:∀p,(θ' p).id=(θ p).id):∀{ds:List SV} {aS:List AV},db θ ρ ds aS->db θ' ρ ds aS
 | [],aS,h=>by rw[bl] at h ⊢;exact h
 | d::ds,aS,h=>by
  rw[aN] at h ⊢;obtain⟨a,r,h1,h2,h3⟩:=h;exact⟨a,r,h1,VS.ids hθ h2,db.ids hθ h3⟩
end
variable{o:Nat}{v:SV}{x:AV}
def iQ(hθ:∀p,p≠o->θ' p=θ p)(h:VS θ ρ v x):VS θ' ρ (aO o v) x:=by
 unfold aO;cases hn:names o v
 ·exact h.ub hθ hn
 ·rw[an,VS];trivial
def db.map{g:SV->SV}(hg:∀v x,VS θ ρ v x->VS θ' ρ (g v) x):∀{ds:List SV} {aS:List AV},db θ ρ ds aS->db θ' ρ (ds.map g) aS
 | [],aS,h=>by rw[bl] at h;rw[bu,bl];exact h
 | d::ds,aS,h=>by
  rw[aN] at h;rw[am,aN];obtain⟨a,r,h1,h2,h3⟩:=h;exact⟨a,r,h1,hg _ _ h2,db.map hg h3⟩
def ew(o:Nat):∀(f:Fm) (i:Nat),aJ (bZ o f) i=aO o (aJ f i)
 | [],i=>rfl
 | (d,v)::f,i=>by
  show(if d=i then aO o v else aJ (bZ o f) i)=aO o (if d=i then v else aJ f i);rw[ew o f i];by_cases h:d=i
  ·rw[ut h,ut h]
  ·rw[v6 h,v6 h]
def sq(g:SV->SV):SO->SO
 | .cells cs=>.cells (cs.map g)
 | .map ks vs b=>.map ks (vs.map g) b
 | .iter m bs c pos=>.iter (g m) bs c pos
 | .oB ks vs bs c pos=>.oB ks vs bs c pos
 | .gone=>.gone
 | .loop c ls p f=>.loop c ls p (f.map λq=>(q.1,g q.2))
 | .mf N=>.mf N
def Bi(g:SV->SV):∀(f:Fm) (i:Nat),aJ (f.map λq=>(q.1,g q.2)) i=g (aJ f i)\/aJ (f.map λq=>(q.1,g q.2)) i=.any
 | [],i=>.inr rfl
 | (d,v)::f,i=>by
  show(if d=i then g v else aJ (f.map λq=>(q.1,g q.2)) i)=g (if d=i then v else aJ f i)\/(if d=i then g v else aJ (f.map λq=>(q.1,g q.2)) i)=.any;by_cases h:d=i
  ·rw[ut h,ut h];exact .inl rfl
  ·rw[v6 h,v6 h];exact Bi g f i
def Nt(o:Nat):bI o=sq (aO o):=by funext so;cases so<;>rfl
def tu(so:SO):sq (λv=>v) so=so:=by cases so<;>simp[sq]
variable{so:SO}
def BD{g:SV->SV}(h:sq g so≠.gone):so≠.gone:=by intro e;subst e;exact h rfl
def nd.map{g:SV->SV}(hg:∀v x,VS θ ρ v x->VS θ' ρ (g v) x){h h':H}{L:Loc}{so:SO}(hx:nd θ ρ h L so)(ho:h'.aV.get L.id=h.aV.get L.id)(hf:h'.dE.get L.cf=h.dE.get L.cf):nd θ' ρ h' L (sq g so):=by
 cases so with
 | cells cs=>obtain⟨aS,h1,h2,h3⟩:=hx;exact⟨aS,by rw[ho];exact h1,h2.map hg,by rw[hf];exact h3⟩
 | map ks vs b=>obtain⟨l,c,h1,h2,h3⟩:=hx;exact⟨l,c,by rw[ho];exact h1,h2,h3.map hg⟩
 | iter m bs c pos=>obtain⟨kI,h1,h2⟩:=hx;exact⟨kI,hg _ _ h1,by rw[ho];exact h2⟩
 | oB ks vs bs c pos=>obtain⟨kI,l,h1,h2,h3,h4⟩:=hx;exact⟨kI,l,h1,h2,h3,by rw[ho];exact h4⟩
 | gone=>trivial
 | loop c ls p f=>
  obtain⟨h1,h2,h3⟩:=hx;refine⟨h1,by rw[ho];exact h2,λi hi=>?_⟩
  rcases Bi g f i with e | e
  ·rw[e];exact hg _ _ (h3 i hi)
  ·rw[e,VS];trivial
 | mf N=>exact⟨hx.1,by rw[ho];exact hx.2⟩
def xz.symm{L M:Loc}(h:xz L M):xz M L:=⟨h.xx.symm,h.yx.symm,h.xy.symm,h.yy.symm,h.f.symm⟩
variable{n:Nat}
def Ej.mono{b:En}{m:Nat}{L:Loc}(h:Ej b n L)(hn:n<=m):Ej b m L:=⟨h.e,⟨h.x.1,by have:=h.x.2;omega⟩,⟨h.y.1,by have:=h.y.2;omega⟩,⟨h.f.1,by have:=h.f.2;omega⟩⟩
def gA(θ:Nat->Loc)(o:Nat)(L:Loc):Nat->Loc:=λp=>if p=o then L else θ p
def cI(θ:Nat->Loc)(o:Nat)(L:Loc):gA θ o L o=L:=ut rfl
def cj(θ:Nat->Loc){p:Nat}(L:Loc)(h:p≠o):gA θ o L p=θ p:=v6 h
variable{h0:En}{h:H}{S:List SO}{S':List SO}
def RS.Aj{h':H}{so':SO}{L':Loc}{g:SV->SV}(hR:RS θ ρ0 ρ h0 h S)(hnx:h.next<=h'.next)(hob0:∀j,h0.pr j->h'.aV.get j=h.aV.get j)(hfm0:∀j,h0.pf j->h'.dE.get j=h.dE.get j)(hlw:h0.lo<=h'.low)(hln:h'.low<=h'.next)(hL:Ej h0 h'.next L')
 (hg:∀v x,VS θ ρ v x->VS (gA θ o L') ρ (g v) x)
 (hob:∀p so,p≠o->S[p]?=some so->so≠.gone->h'.aV.get (θ p).id=h.aV.get (θ p).id/\h'.dE.get (θ p).cf=h.dE.get (θ p).cf/\xz (θ p) L')
 (hrow:∀id ob,ρ id=some ob->h'.aV.get id=h.aV.get id/\id≠L'.x/\id≠L'.y)
 (hnew:nd (gA θ o L') ρ h' L' so') (hS:∀p,p≠o->S'[p]?=(S[p]?).map (sq g)) (hSo:S'[o]?=some so'):RS (gA θ o L') ρ0 ρ h0 h' S':=by
 have other:∀p so,p≠o->S'[p]?=some so->so≠.gone->∃s,S[p]?=some s/\s≠.gone/\so=sq g s:=by
  intro p so hp h1 h2;rw[hS p hp] at h1;obtain⟨s,hs,rfl⟩:=aw h1;exact⟨s,hs,BD h2,rfl⟩
 refine⟨hR.ok,ba hR.nx hnx,λj hj=>(hob0 j hj).trans (hR.ob j hj),λj hj=>(hfm0 j hj).trans (hR.fm j hj),hlw,hln,?_,?_,?_,hR.ml⟩
 ·intro p so h1 h2;by_cases hp:p=o
  ·subst hp;rw[hSo] at h1;cases h1;rw[cI];exact⟨hL,hnew⟩
  ·obtain⟨s,hs,hsg,rfl⟩:=other p so hp h1 h2;rw[cj _ _ hp];obtain⟨k1,k2⟩:=hR.obj p s hs hsg;obtain⟨q1,q2,_⟩:=hob p s hp hs hsg;exact⟨k1.mono hnx,k2.map hg q1 q2⟩
 ·intro p q so so' hpq h1 h2 h3 h4;by_cases hp:p=o
  ·subst hp;obtain⟨s,hs,hsg,rfl⟩:=other q so' (λe=>hpq e.symm) h3 h4;rw[cI,cj _ _ (λe=>hpq e.symm)];exact(hob q s (λe=>hpq e.symm) hs hsg).2.2.symm
  ·obtain⟨s,hs,hsg,rfl⟩:=other p so hp h1 h2;rw[cj _ _ hp];by_cases hq:q=o
   ·subst hq;rw[cI];exact(hob p s hp hs hsg).2.2
   ·obtain⟨s',hs',hsg',rfl⟩:=other q so' hq h3 h4;rw[cj _ _ hq];exact hR.sep p q s s' hpq hs hsg hs' hsg'
 ·intro id ob hi;obtain⟨k1,k2,k3⟩:=hR.row id ob hi;obtain⟨q1,q2,q3⟩:=hrow id ob hi;refine⟨aj k1 hnx,by rw[q1];exact k2,?_⟩;intro p so h1 h2;by_cases hp:p=o
  ·subst hp;rw[cI];exact⟨q2,q3⟩
  ·obtain⟨s,hs,hsg,rfl⟩:=other p so hp h1 h2;rw[cj _ _ hp];exact k3 p s hs hsg
def br{α:Type}{l:List α}{i:Nat}{x:α}(h:l[i]?=some x):i<l.length:=(rt h).1
def re(o:Nat)(S:List SO)(p:Nat):(cy o S)[p]?=(S[p]?).map (sq (aO o)):=by
 unfold cy;rw[Nt,a5]
def RS.new{ob:AO}(hR:RS θ ρ0 ρ h0 h S)(hob:(∃cs aS,so=.cells cs/\ob=.cells aS h.next/\db θ ρ cs aS)\/(so=.map [] [] none/\ob=.map [] 0)):
 RS (gA θ S.length ⟨h.next,h.next,h.next,h.next⟩) ρ0 ρ h0 { h.lay h.next ob with next:=h.next+1 } (dO S so)/\∀v x,VS θ ρ v x->VS (gA θ S.length ⟨h.next,h.next,h.next,h.next⟩) ρ (aO S.length v) x:=by
 have hg:∀v x,VS θ ρ v x->VS (gA θ S.length ⟨h.next,h.next,h.next,h.next⟩) ρ (aO S.length v) x:=λv x hv=>iQ (λp hp=>cj _ _ hp) hv;refine⟨?_,hg⟩;have hb:=hR.nx;have hpr:∀j,h0.pr j->j<h.next:=λj hj=>aj (hR.ok.pr j hj) hb;have hpf:∀j,h0.pf j->j<h.next:=λj hj=>aj (hR.ok.pf j hj) hb
 have hobj:∀j,j<h.next->({ h.lay h.next ob with next:=h.next+1 }:H).aV.get j=h.aV.get j:=by
  intro j hj
  rcases hob with⟨cs,aS,_,rfl,_⟩ | ⟨_,rfl⟩<;>exact bp _ _ i4
 have hfam:∀j,j<h.next->({ h.lay h.next ob with next:=h.next+1 }:H).dE.get j=h.dE.get j:=by
  intro j hj
  rcases hob with⟨cs,aS,_,rfl,_⟩ | ⟨_,rfl⟩
  ·exact bp _ _ i4
  ·rfl
 have hlow:({ h.lay h.next ob with next:=h.next+1 }:H).low=h.low:=by
  rcases hob with⟨cs,aS,_,rfl,_⟩ | ⟨_,rfl⟩<;>rfl
 refine hR.Aj (g:=aO S.length) (so':=bI S.length so) (by show h.next<=h.next+1;omega) (λj hj=>hobj j (hpr j hj)) (λj hj=>hfam j (hpf j hj)) (by rw[hlow];exact hR.lw) (by rw[hlow];exact cl hR.ln) ⟨.inl rfl,⟨λhj=>cc _ (hpr _ hj),bw _⟩,⟨λhj=>cc _ (hpr _ hj),bw _⟩,⟨λhj=>cc _ (hpf _ hj),bw _⟩⟩ hg ?_ ?_ ?_ ?_ ?_
 ·intro p s hp hs hsg;obtain⟨⟨k1,k2,k3,k4⟩,_⟩:=hR.obj p s hs hsg;refine⟨hobj _ (by rcases k1 with e | e<;>omega),hfam _ k4.2,⟨?_,?_,?_,?_,?_⟩⟩<;>(simp only;omega)
 ·intro id ob' hi;have:=(hR.row id ob' hi).1;exact⟨hobj id this,by simp only;omega,by simp only;omega⟩
 ·rcases hob with⟨cs,aS,rfl,rfl,hv⟩ | ⟨rfl,rfl⟩
  ·exact⟨aS,c8 _ _ _,hv.map hg,c8 _ _ _⟩
  ·exact⟨[],0,c8 _ _ _,⟨rfl,⟨List.nodup_nil,λe he=>by simp at he⟩,λp hp=>by cases hp⟩,by rw[bu,bu,bl]⟩
 ·intro p hp;unfold dO
  have hl:(cy S.length S).length=S.length:=by unfold cy;rw[aW]
  rw[ch];split
  ·exact re _ _ _
  ·rename_i hlt;rw[hl] at hlt ⊢;have:S[p]?=none:=a6 i4;rw[this,a6 (by simp;omega)];rfl
 ·unfold dO
  have hl:(cy S.length S).length=S.length:=by unfold cy;rw[aW]
  rw[a9 i4,hl,dv];rfl
variable{id:Nat}
def oY{cf x y:Nat}(hf:h.dE.get cf=some (x,y)){j:Nat}(hj:j≠cf):(h.alone id cf).dE.get j=h.dE.get j:=by
 unfold H.alone;rw[hf];simp only;cases beq x id&&beq y id
 ·exact bp _ _ hj
 ·rfl
def nA{a b c:Nat}(h1:c<=a)(h2:c<=b):c<=gO a b:=by
 unfold gO;cases ble a b
 ·exact h2
 ·exact h1
def Ba{cf x y b:Nat}(hf:h.dE.get cf=some (x,y))(hx:b<=x)(hy:b<=y)(hb:b<=h.low)(hn:h.low<=h.next):b<=(h.alone id cf).low/\(h.alone id cf).low<=h.next:=by
 unfold H.alone;rw[hf];simp only;cases beq x id&&beq y id
 ·exact⟨nA hb (nA hx hy),ba (dP _ _).1 hn⟩
 ·exact⟨hb,hn⟩
def RS.store{h0:En}{h:H}{S:List SO}{o:Nat}{cs vs:List SV}{off:Nat}{xs:List AV}(hR:RS θ ρ0 ρ h0 h S)(hS:S[o]?=some (.cells cs))(hv:db θ ρ vs xs)(hone:xs.all jR=true)(hle:off+vs.length<=cs.length):
 ∃h',h.store (θ o).id off xs=some h'/\RS (gA θ o ⟨(θ o).id,(θ o).cf,(θ o).id,(θ o).id⟩) ρ0 ρ h0 h' (S.set o (.cells (cs.take off++(vs++cs.drop (off+vs.length)))))/\∀v x,VS θ ρ v x->VS (gA θ o ⟨(θ o).id,(θ o).cf,(θ o).id,(θ o).id⟩) ρ v x:=by
 have hg:∀v x,VS θ ρ v x->VS (gA θ o ⟨(θ o).id,(θ o).cf,(θ o).id,(θ o).id⟩) ρ v x:=λv x hv=>hv.ids λp=>by
  by_cases hp:p=o
  ·subst hp;rw[cI]
  ·rw[cj _ _ hp]
 obtain⟨⟨k1,k2,k3,k4⟩,aS,q1,q2,q3⟩:=hR.obj o _ hS gt;have a2:(h.alone (θ o).id (θ o).cf).next=h.next:=(sa (Z:=0) (id:=(θ o).id) q3 (bc _) (bc _) (bc _)).2;have px:∀j,h0.pr j->j≠(θ o).x:=λj hj e=>k2.1 (e▸hj);have py:∀j,h0.pr j->j≠(θ o).y:=λj hj e=>k3.1 (e▸hj)
 have pi:∀j,h0.pr j->j≠(θ o).id:=λj hj=>by rcases k1 with e | e<;>rw[e];exact px j hj;exact py j hj
 have pfm:∀j,h0.pf j->j≠(θ o).cf:=λj hj e=>k4.1 (e▸hj)
 have lid:h0.lo<=(θ o).id:=by rcases k1 with e | e<;>rw[e];exact hR.ok.lo _ k2.1;exact hR.ok.lo _ k3.1
 have hidn:(θ o).id<h.next:=by rcases k1 with e | e<;>rw[e];exact k2.2;exact k3.2
 have al:=Ba (id:=(θ o).id) q3 (hR.ok.lo _ k2.1) (hR.ok.lo _ k3.1) hR.lw hR.ln;have hl:=q2.length;have hlx:=hv.length;refine⟨{ h.alone (θ o).id (θ o).cf with aV:=(h.alone (θ o).id (θ o).cf).aV.put (θ o).id (some (.cells (aS.take off++(xs++aS.drop (off+xs.length))) (θ o).cf)),low:=gO (h.alone (θ o).id (θ o).cf).low (θ o).id },?_,?_,hg⟩
 ·unfold H.store;rw[q1];simp only;rw[fc (show off+xs.length<=aS.length by omega),hone];rfl
 ·refine hR.Aj (g:=λv=>v) (so':=.cells (cs.take off++(vs++cs.drop (off+vs.length)))) (by show h.next<=(h.alone _ _).next;omega) (λj hj=>?_) (λj hj=>oY q3 (pfm j hj)) (nA al.1 lid) ?_ ⟨.inl rfl,⟨λhj=>pi _ hj rfl,?_⟩,⟨λhj=>pi _ hj rfl,?_⟩,⟨k4.1,?_⟩⟩ hg ?_ ?_ ?_ ?_ ?_
  ·show(Tr.put _ _ _).get j=_;rw[bp _ _ (pi j hj)];exact jZ q3 (px j hj) (py j hj)
  ·show gO (h.alone _ _).low _<=(h.alone _ _).next;rw[a2];exact ba (dP _ _).1 al.2
  ·show(θ o).id<(h.alone _ _).next;rw[a2];exact hidn
  ·show(θ o).id<(h.alone _ _).next;rw[a2];exact hidn
  ·show(θ o).cf<(h.alone _ _).next;rw[a2];exact k4.2
  ·intro p s hp hs hsg;have sp:=hR.sep p o s _ hp hs hsg hS gt;obtain⟨⟨j1,j2,j3,j4⟩,_⟩:=hR.obj p s hs hsg
   have e1:(θ p).id≠(θ o).x:=by rcases j1 with e | e<;>rw[e];exact sp.xx;exact sp.yx
   have e2:(θ p).id≠(θ o).y:=by rcases j1 with e | e<;>rw[e];exact sp.xy;exact sp.yy
   refine⟨?_,oY q3 sp.f,⟨?_,?_,?_,?_,sp.f⟩⟩
   ·show(Tr.put _ _ _).get _=_;rw[bp _ _ (by rcases k1 with e | e<;>rw[e]<;>assumption)];exact jZ q3 e1 e2
   ·simp only;rcases k1 with e | e<;>rw[e];exact sp.xx;exact sp.xy
   ·simp only;rcases k1 with e | e<;>rw[e];exact sp.xx;exact sp.xy
   ·simp only;rcases k1 with e | e<;>rw[e];exact sp.yx;exact sp.yy
   ·simp only;rcases k1 with e | e<;>rw[e];exact sp.yx;exact sp.yy
  ·intro id ob hi;obtain⟨_,_,r3⟩:=hR.row id ob hi;obtain⟨e1,e2⟩:=r3 o _ hS gt
   have e3:id≠(θ o).id:=by rcases k1 with e | e<;>rw[e]<;>assumption
   refine⟨?_,e3,e3⟩;show(Tr.put _ _ _).get _=_;rw[bp _ _ e3];exact jZ q3 e1 e2
  ·refine⟨_,c8 _ _ _,?_,A9 q3⟩
   have hw:db θ ρ (cs.take off++(vs++cs.drop (off+vs.length))) (aS.take off++(xs++aS.drop (off+xs.length))):=by
    rw[hlx];exact(q2.take off).app (hv.app (q2.drop (off+vs.length)))
   have:=hw.map hg;rw[List.map_id'] at this;exact this
  ·intro p hp;rw[a0 (λe=>hp e.symm)]
   cases S[p]? with
   | none=>rfl
   | some s=>rw[m6,tu]
  ·rw[ay (br hS)]
variable{vs:List SV}
def RS.RR{ks ks':List AV}{vs':List SV}{l':List (AV×AV×Nat)}{c':Nat}{b b':Option (List Nat×Nat)}(hR:RS θ ρ0 ρ h0 h S)(hS:S[o]?=some (.map ks vs b))(h1:O3 l' c' ks' b')(h2:db θ ρ vs' (l'.map (·.2.1))):
 RS θ ρ0 ρ h0 (h.set (θ o).id (.map l' c')) (S.set o (.map ks' vs' b')):=by
 obtain⟨⟨k1,k2,k3,k4⟩,l,c,q1,q2,q3⟩:=hR.obj o _ hS gt
 have heq:gA θ o (θ o)=θ:=by
  funext p;unfold gA;split
  ·rename_i e;rw[e]
  ·rfl
 have hg:∀v x,VS θ ρ v x->VS (gA θ o (θ o)) ρ v x:=λv x hv=>by rw[heq];exact hv
 have pi:∀j,h0.pr j->j≠(θ o).id:=λj hj e=>by rcases k1 with e' | e'<;>rw[e'] at e;exact k2.1 (e▸hj);exact k3.1 (e▸hj)
 have lid:h0.lo<=(θ o).id:=by rcases k1 with e | e<;>rw[e];exact hR.ok.lo _ k2.1;exact hR.ok.lo _ k3.1
 have:=hR.Aj (g:=λv=>v) (h':=h.set (θ o).id (.map l' c')) (S':=S.set o (.map ks' vs' b')) (so':=.map ks' vs' b') (L':=θ o) (bv _) (λj hj=>bp _ _ (pi j hj)) (λj hj=>rfl) (nA hR.lw lid) (ba (dP _ _).1 hR.ln) ⟨k1,k2,k3,k4⟩ hg ?_ ?_ ?_ ?_ ?_
 ·rw[heq] at this;exact this
 ·intro p s hp hs hsg;have sp:=hR.sep p o s _ hp hs hsg hS gt;obtain⟨⟨j1,j2,j3,j4⟩,_⟩:=hR.obj p s hs hsg;refine⟨bp _ _ ?_,rfl,sp⟩
  rcases j1 with e | e<;>rcases k1 with e' | e'<;>rw[e,e']
  ·exact sp.xx
  ·exact sp.xy
  ·exact sp.yx
  ·exact sp.yy
 ·intro id ob hi;obtain⟨_,_,r3⟩:=hR.row id ob hi;obtain⟨e1,e2⟩:=r3 o _ hS gt;exact⟨bp _ _ (by rcases k1 with e | e<;>rw[e]<;>assumption),e1,e2⟩
 ·rw[heq];exact⟨l',c',c8 _ _ _,h1,h2⟩
 ·intro p hp;rw[a0 (λe=>hp e.symm)]
  cases S[p]? with
  | none=>rfl
  | some s=>rw[m6,tu]
 ·rw[ay (br hS)]
variable{cs:List SV}{aS:List AV}
def RS.fork{xs:List AV}(hR:RS θ ρ0 ρ h0 h S)(hS:S[o]?=some (.cells cs))(hv:db θ ρ vs xs)(has:h.aV.get (θ o).id=some (.cells aS (θ o).cf))(hle:n<=cs.length):
 (h.alone (θ o).id (θ o).cf).next=h.next/\RS (gA θ o ⟨h.next,(θ o).cf,(θ o).id,h.next⟩) ρ0 ρ h0 (h.ek (θ o).id (θ o).cf (aS.take n) ((aS.drop 0).take n++xs)) ((cy o S).set o (bI o (.cells (cs.take n++vs))))/\∀v x,VS θ ρ v x->VS (gA θ o ⟨h.next,(θ o).cf,(θ o).id,h.next⟩) ρ (aO o v) x:=by
 have hg:∀v x,VS θ ρ v x->VS (gA θ o ⟨h.next,(θ o).cf,(θ o).id,h.next⟩) ρ (aO o v) x:=λv x hv=>iQ (λp hp=>cj _ _ hp) hv;obtain⟨⟨k1,k2,k3,k4⟩,as',q1,q2,q3⟩:=hR.obj o _ hS gt;rw[has] at q1;cases q1;have a2:(h.alone (θ o).id (θ o).cf).next=h.next:=(sa (Z:=0) (id:=(θ o).id) q3 (bc _) (bc _) (bc _)).2;have px:∀j,h0.pr j->j≠(θ o).x:=λj hj e=>k2.1 (e▸hj);have py:∀j,h0.pr j->j≠(θ o).y:=λj hj e=>k3.1 (e▸hj)
 have pi:∀j,h0.pr j->j≠(θ o).id:=λj hj=>by rcases k1 with e | e<;>rw[e];exact px j hj;exact py j hj
 have pfm:∀j,h0.pf j->j≠(θ o).cf:=λj hj e=>k4.1 (e▸hj)
 have lid:h0.lo<=(θ o).id:=by rcases k1 with e | e<;>rw[e];exact hR.ok.lo _ k2.1;exact hR.ok.lo _ k3.1
 have hidn:(θ o).id<h.next:=by rcases k1 with e | e<;>rw[e];exact k2.2;exact k3.2
 have al:=Ba (id:=(θ o).id) q3 (hR.ok.lo _ k2.1) (hR.ok.lo _ k3.1) hR.lw hR.ln;have hid:(θ o).id<h.next:=hidn;have hb:=hR.nx;have hprn:∀j,h0.pr j->j<h.next:=λj hj=>aj (hR.ok.pr j hj) hb;refine⟨a2,?_,hg⟩;refine hR.Aj (g:=aO o) (so':=bI o (.cells (cs.take n++vs))) (by show h.next<=(h.alone _ _).next+1;omega) (λj hj=>?_) (λj hj=>?_) ?_ ?_ ⟨.inr rfl,⟨λhj=>pi _ hj rfl,?_⟩,⟨λhj=>cc _ (hprn _ hj),?_⟩,⟨k4.1,?_⟩⟩ hg ?_ ?_ ?_ ?_ ?_
 ·simp only[H.ek];rw[a2,bp _ _ (by have:=hprn j hj;omega),bp _ _ (pi j hj)];exact jZ q3 (px j hj) (py j hj)
 ·simp only[H.ek];rw[bp _ _ (pfm j hj)];exact oY q3 (pfm j hj)
 ·simp only[H.ek];exact nA al.1 lid
 ·simp only[H.ek];rw[a2];exact cl (ba (dP _ _).1 al.2)
 ·simp only[H.ek,a2];omega
 ·simp only[H.ek,a2];omega
 ·simp only[H.ek,a2];have:=k4.2;omega
 ·intro p s hp hs hsg;have sp:=hR.sep p o s _ hp hs hsg hS gt;obtain⟨⟨j1,j2,j3,j4⟩,_⟩:=hR.obj p s hs hsg
  have e1:(θ p).id≠(θ o).x:=by rcases j1 with e | e<;>rw[e];exact sp.xx;exact sp.yx
  have e2:(θ p).id≠(θ o).y:=by rcases j1 with e | e<;>rw[e];exact sp.xy;exact sp.yy
  have e3:(θ p).id<h.next:=by rcases j1 with e | e<;>omega
  refine⟨?_,?_,⟨?_,?_,?_,?_,sp.f⟩⟩
  ·simp only[H.ek];rw[a2,bp _ _ i4,bp _ _ (by rcases k1 with e | e<;>rw[e]<;>assumption)];exact jZ q3 e1 e2
  ·simp only[H.ek];rw[bp _ _ sp.f];exact oY q3 sp.f
  ·simp only;rcases k1 with e | e<;>rw[e];exact sp.xx;exact sp.xy
  ·simp only;omega
  ·simp only;rcases k1 with e | e<;>rw[e];exact sp.yx;exact sp.yy
  ·simp only;omega
 ·intro id ob hi;obtain⟨r1,_,r3⟩:=hR.row id ob hi;obtain⟨e1,e2⟩:=r3 o _ hS gt
  have e3:id≠(θ o).id:=by rcases k1 with e | e<;>rw[e]<;>assumption
  refine⟨?_,e3,by simp only;omega⟩;simp only[H.ek];rw[a2,bp _ _ i4,bp _ _ e3];exact jZ q3 e1 e2
 ·refine⟨_,?_,((q2.take n).app hv).map hg,?_⟩
  ·simp only[H.ek];rw[a2,c8,b0]
  ·simp only[H.ek];rw[c8,a2]
 ·intro p hp;rw[a0 (λe=>hp e.symm)];exact re _ _ _
 ·rw[ay (by unfold cy;rw[aW];exact br hS)]
end
section
variable {θ θ':Nat->Loc} {ρ ρ0:jY} {P:Program}
variable{h0:En}{h:H}{S:List SO}{id:Nat}
def F9(hR:RS θ ρ0 ρ h0 h S){row:List AV}(hr:vl ρ id=some row):rM h.aV id=some row:=by
 unfold vl at hr
 cases ho:ρ id with
 | none=>rw[ho] at hr;cases hr
 | some ob=>
  have:=(hR.row id ob ho).2.1;rw[ho] at hr;unfold rM;rw[this]
  cases ob<;>first | exact hr | (cases hr;done)
variable{x:AV}{v:SV}
def Fs(hR:RS θ ρ0 ρ h0 h S){tt:TypeId}{a:SV}(ha:VS θ ρ a x)(hl:yC P S tt a=some v):∃y,CR P h tt (some x)=some y/\VS θ ρ v y:=by
 unfold yC at hl;split at hl
 ·rename_i o off;rw[VS] at ha;subst ha;split at hl
  ·rename_i cs hS;obtain⟨_,aS,q1,q2,_⟩:=hR.obj o _ hS gt;obtain⟨y,k1,k2⟩:=tF q2 hl;exact⟨y,by rw[BA,Bz (aS:=aS) (by unfold rM;rw[q1];rfl)];exact k1,k2⟩
  ·cases hl
 ·rename_i cs;rw[VS,GS] at ha;obtain⟨id,off,row,r,rfl,h2,h3,h4⟩:=ha;obtain⟨y,k1,k2⟩:=tF (h4.vs (θ:=θ)) hl;refine⟨y,?_,k2⟩;rw[BA,Bz (F9 hR h2)];have:=Lx h3 k1;rw[Nat.add_zero] at this;exact this
 ·cases hl
variable{S':List SO}{y:AV}
def LH(hR:RS θ ρ0 ρ h0 h S){tt:TypeId}{a:SV}(ha:VS θ ρ a x)(hv:VS θ ρ v y)(hs:Dj P S tt a v=some S'):
 ∃h' θ',Di P h tt (some x) (some y)=some h'/\RS θ' ρ0 ρ h0 h' S'/\∀v x,VS θ ρ v x->VS θ' ρ v x:=by
 unfold Dj at hs;split at hs
 ·rename_i o off;rw[VS] at ha;subst ha;split at hs
  ·rename_i cs hS;obtain⟨⟨n,_⟩,hq,hs⟩:=ul hs;obtain⟨vs,hvs,hs⟩:=ul hs;obtain⟨⟨b1,b2,b3⟩,hs⟩:=cu hs;cases hs;have hn:=(ur hq).2;simp only at b1 b2 hn;have kv:=uI hv hvs;subst b1;obtain⟨h',e1,e2,e3⟩:=hR.store hS kv (ma kv b3) b2;refine⟨h',_,?_,e2,e3⟩;rw[Ip];unfold H.storeVar;rw[hn,m7,kv.length,aa,an];exact e1
  ·cases hs
 ·cases hs
def Qj{P:Program}{t:Tr AV}{nm:String}{first cap:Array Operand}:eu P t h (.makeFunc (.method nm) first cap)=((Ap t first.toList).bind λa=>(Ap t cap.toList).map λb=>AV.fn (.method nm) a b).map λv=>[(some v,h)]:=rfl
variable{w:SV}
def PW(hv:VS θ ρ v x)(h:aR P v=some w):oJ P x=some x/\w=v:=by
 cases v with
 | ptr o off=>simp only[aR,qr] at h;rw[VS] at hv;subst hv;exact⟨rfl,h.symm⟩
 | ip cs=>simp only[aR,qr] at h;rw[VS,GS] at hv;obtain⟨id,off,row,r,rfl,_⟩:=hv;exact⟨rfl,h.symm⟩
 | fn g a b=>simp only[aR,qr] at h;rw[VS] at hv;obtain⟨xs,ys,rfl,_⟩:=hv;exact⟨rfl,h.symm⟩
 | sl n e cs=>simp only[aR,qr] at h;rw[VS,GS] at hv;rcases hv with⟨_,_,o,e',c,rfl,_,_⟩ | ⟨id,off,cap,row,rfl,_⟩<;>exact⟨rfl,h.symm⟩
 | buf o n e c=>simp only[aR,qr] at h;rw[VS] at hv;subst hv;exact⟨rfl,h.symm⟩
 | sub o off n e c=>simp only[aR,qr] at h;rw[VS] at hv;subst hv;exact⟨rfl,h.symm⟩
 | e0 e=>simp only[aR,qr] at h;rw[VS] at hv;obtain⟨o,e',rfl,_⟩:=hv;exact⟨rfl,h.symm⟩
 | a u=>
  unfold aR at h;split at h
  case h_8 hu=>
   cases hu;obtain⟨g,hg,rfl⟩:=aw h;rw[VS] at hv;subst hv;refine⟨?_,rfl⟩;unfold oJ;simp only[hg,m6]
  all_goals first | (cases h;done) | (rename_i hu;cases hu;done)
 | _=>simp[aR] at h
def KA{a b:Nat}(h:a<b):Nat.blt a b=true:=by rw[Nat.blt_eq];exact h
variable{cs:List SV}
def JK{k:Nat}(hv:GS ρ (.ip cs) x)(hk:k<=cs.length):∃id off row,x=.ptr (some (id,off))/\vl ρ id=some row/\GS ρ (.ip (cs.drop k)) (.ptr (some (id,off+k))):=by
 rw[GS] at hv;obtain⟨id,off,row,r,rfl,h2,h3,h4⟩:=hv;refine⟨id,off,row,rfl,h2,?_⟩;have hl:=h4.length;rw[ce,be] at hl;rw[GS];refine⟨id,off+k,row,r-k,rfl,h2,by omega,?_⟩;have:=h4.drop k;rw[b9,a3] at this;exact this
def Ar{s:TypeId}{fl:Nat}(hv:VS θ ρ v x)(h:ph P s v fl=some w):∃y,je P s x fl=some y/\VS θ ρ w y:=by
 unfold ph at h;obtain⟨q,hq,h⟩:=ul h;obtain⟨hn0,h⟩:=cu h;obtain⟨fs,fd,hu,_,hfd,hn,e1,_⟩:=uP hq
 have hb:beq q.2.2 0=false:=by
  cases hb:beq q.2.2 0
  ·rfl
  ·exact un (cV hb) hn0
 cases v with
 | ptr o off=>
  simp only at h;cases h;rw[VS] at hv;subst hv;unfold je;rw[hu];simp only;rw[hfd,m7,hn,m7,hb,au,e1];exact⟨_,rfl,by rw[VS]⟩
 | ip cs=>
  simp only at h;obtain⟨hk,h⟩:=cu h;cases h;rw[VS] at hv;obtain⟨id,off,row,rfl,_,h2⟩:=JK hv hk;unfold je;rw[hu];simp only;rw[hfd,m7,hn,m7,hb,au,e1];exact⟨_,rfl,by rw[VS];exact h2⟩
 | _=>simp at h
def K0{s:TypeId}{fl:Nat}(hv:VS θ ρ v x)(h:yc P s v fl=some w):∃y,uM P s x fl=some y/\VS θ ρ w y:=by
 cases v with
 | ag cs=>
  simp only[yc] at h;rw[VS] at hv;obtain⟨aS,rfl,hv⟩:=hv;obtain⟨q,hq,h⟩:=ul h;obtain⟨fs,fd,hu,_,hfd,hn,e1,e2⟩:=uP hq;obtain⟨y,k1,k2⟩:=tF hv h;unfold uM;rw[hu];simp only;rw[hfd,m7,e1,e2];exact⟨y,k1,k2⟩
 | _=>simp[yc] at h
def C0{i:Nat}(hv:VS θ ρ v x)(h:H4 v=some i):dj x=some i:=by
 cases v with
 | a v=>rw[VS] at hv;subst hv;exact h
 | _=>simp[H4] at h
variable{t:TypeId}
def Av{iv:SV}{ix:AV}(hv:VS θ ρ v x)(hi:VS θ ρ iv ix)(h:pz P t v iv=some w):∃y,kc P t x ix=some y/\VS θ ρ w y:=by
 unfold pz at h;obtain⟨i,hin,h2⟩:=ul h;clear h;unfold kc;rw[C0 hi hin,m7]
 cases har:QP P t with
 | some q=>
  rw[har] at h2;simp only at h2;obtain⟨hu,hs⟩:=Es har;obtain⟨hlt,h⟩:=cu h2;rw[hu];have hlb:blt i q.1=true:=KA hlt
  cases v with
  | ptr o off=>
   simp only at h;cases h;rw[VS] at hv;subst hv;simp only;rw[hs,m7,hlb,an];exact⟨_,rfl,by rw[VS]⟩
  | ip cs=>
   simp only at h;obtain⟨hk,h⟩:=cu h;cases h;rw[VS] at hv;obtain⟨id,off,row,rfl,_,h2⟩:=JK hv hk;simp only;rw[hs,m7,hlb,an];exact⟨_,rfl,by rw[VS];exact h2⟩
  | _=>simp at h
 | none=>
  rw[har] at h2;simp only at h2;obtain⟨q,hq,h⟩:=ul h2;obtain⟨hu,hs⟩:=gj hq;obtain⟨e,s⟩:=q;simp only at hu hs h;rw[hu]
  cases v with
  | sl n es cs=>
   simp only at h;obtain⟨⟨hlt,hse⟩,h⟩:=cu h;cases h;subst hse;have hlb:blt i n=true:=KA hlt;rw[VS,GS] at hv
   rcases hv with⟨h1,_⟩ | ⟨id,off,cap,row,rfl,h2,h3,h4⟩
   ·omega
   ·simp only;rw[hs,m7,hlb,aa,ad,an];refine⟨_,rfl,?_⟩
    have hms:i*s+s<=n*s:=by
     have:=a8 s (show i+1<=n by omega);rw[d0] at this;exact this
    rw[VS,GS];refine⟨id,off+i*s,row,s,rfl,h2,by omega,?_⟩;have:=(h4.drop (i*s)).take s;rw[b9,a3,cb,bh i4] at this;exact this
  | buf o n es c=>
   simp only at h;obtain⟨⟨hlt,hse⟩,h⟩:=cu h;cases h;subst hse;have hlb:blt i n=true:=KA hlt;rw[VS] at hv;subst hv;simp only;rw[hs,m7,hlb,aa,ad,an];exact⟨_,rfl,by rw[VS,bb]⟩
  | sub o off n es c=>
   simp only at h;obtain⟨⟨hlt,hse⟩,h⟩:=cu h;cases h;subst hse;have hlb:blt i n=true:=KA hlt;rw[VS] at hv;subst hv;simp only;rw[hs,m7,hlb,aa,ad,an];exact⟨_,rfl,by rw[VS]⟩
  | _=>simp at h
def K7{iv:SV}{ix:AV}(hv:VS θ ρ v x)(hi:VS θ ρ iv ix)(h:CJ P t v iv=some w):∃y,uS P t x ix=some y/\VS θ ρ w y:=by
 unfold CJ at h;obtain⟨i,hin,h2⟩:=ul h;clear h;unfold uS;rw[C0 hi hin,m7]
 cases v with
 | ag cs=>
  simp only at h2;obtain⟨q,hq,h⟩:=ul h2;obtain⟨hu,hs⟩:=Es hq;obtain⟨hlt,h⟩:=cu h;rw[hu];rw[VS] at hv;obtain⟨aS,rfl,hv⟩:=hv;simp only;rw[hs,m7,KA hlt,an];exact tF hv h
 | a v=>
  cases v with
  | str s=>
   simp only at h2
   cases hk:iR P t with
   | str=>
    rw[hk] at h2;simp only at h2;rw[yA hk];rw[VS] at hv;subst hv;simp only;obtain⟨b,hb,rfl⟩:=aw h2;rw[hb];exact⟨_,rfl,by rw[VS]⟩
   | _=>rw[hk] at h2;cases h2
  | _=>simp at h2
 | _=>simp at h2
def LG{lo hi mx:Option AV}(hv:VS θ ρ v x)(h1:mU P t v lo hi mx=some w):∃y,vm P h t x lo hi mx=some y/\VS θ ρ w y:=by
 unfold mU at h1;unfold vm;split at h1
 ·rename_i s hk;rw[yA hk];rw[VS] at hv;subst hv
  cases mx with
  | some _=>cases h1
  | none=>
   simp only at h1 ⊢;obtain⟨b,hb,rfl⟩:=aw h1;rw[hb];exact⟨_,rfl,by rw[VS]⟩
 ·rename_i n es cs hk
  cases mx with
  | some m=>
   simp only at h1;obtain⟨⟨e,s⟩,hq,h1⟩:=ul h1;obtain⟨hu,hs⟩:=gj hq;simp only at hu hs h1;rw[hu];obtain⟨⟨rfl,h2,h3,h4⟩,h5⟩:=cu h1;cases h5;subst h4;obtain⟨hv0,rfl,h2⟩:=ul h2
   have hb:∀cap,cQ n cap none (some hv0) (some m)=some (0,0,some 0):=by
    intro cap;unfold cQ;simp only;have h2':dj hv0=some 0:=h2
    have hf:pU n cap 0=true:=by unfold pU;rw[fc (bc n)];rfl
    rw[h3,m7,hf,an,h2'];rfl
   rw[VS,GS] at hv
   rcases hv with⟨rfl,rfl,o,e',c,rfl,ho,hoe⟩ | ⟨id,off,cap,row,rfl,h6,h7,h8⟩
   ·simp only;rw[hs,m7,hb,m7];simp only
    cases o with
    | none=>exact⟨_,rfl,by rw[VS];exact⟨none,0,rfl,λh=>un rfl h⟩⟩
    | some q=>
     obtain⟨id,off⟩:=q;rw[hoe ge];simp only;rw[aa,an];exact⟨_,rfl,by rw[VS];exact⟨_,_,rfl,λ_=>rfl⟩⟩
   ·simp only;rw[hs,m7,hb,m7];simp only;rw[aa,an];exact⟨_,rfl,by rw[VS];exact⟨_,_,rfl,λ_=>rfl⟩⟩
  | none=>
   simp only at h1;obtain⟨⟨e,s⟩,hq,h1⟩:=ul h1;obtain⟨hu,hs⟩:=gj hq;simp only at hu hs;rw[hu];obtain⟨⟨l,hh,m⟩,hb,h1⟩:=ul h1;obtain⟨hse,h1⟩:=cu h1;cases h1;simp only at hse;subst hse
   have hbd:∀cap,(cQ n cap lo hi none=some (l,hh,cap))/\l<=hh/\hh<=n:=by
    intro cap;unfold cQ at hb ⊢;simp only at hb ⊢;obtain⟨q,hq,hb⟩:=ul hb
    have hq2:oy n cap hi=some q/\q<=n:=by
     cases hi with
     | none=>simp only[oy,qr] at hq ⊢;exact⟨hq,by omega⟩
     | some hv=>
      simp only[oy] at hq ⊢;obtain⟨k,hk,hq⟩:=ul hq;obtain⟨hf,hq⟩:=aH hq;cases hq;simp only[pU,dc] at hf;rw[hk,m7];unfold pU;rw[hf,ci,an];exact⟨rfl,jd hf⟩
    rw[hq2.1,m7]
    cases lo with
    | none=>simp only[qr,m8] at hb ⊢;obtain⟨rfl,rfl,_⟩:=hb;exact⟨by simp,bc _,hq2.2⟩
    | some lv=>
     simp only at hb ⊢;obtain⟨k,hk,hb⟩:=ul hb;obtain⟨hf,hb⟩:=aH hb;simp only[qr,m8] at hb;obtain⟨rfl,rfl,_⟩:=hb;rw[hk,m7,hf,an];exact⟨by simp,jd hf,hq2.2⟩
   rw[VS,GS] at hv
   rcases hv with⟨rfl,rfl,o,e',c,rfl,ho,hoe⟩ | ⟨id,off,cap,row,rfl,h2,h3,h4⟩
   ·obtain⟨b1,b2,b3⟩:=hbd c
    have hl0:l=0:=by omega
    have hh0:hh=0:=by omega
    subst hl0;subst hh0;simp only;rw[hs,m7,b1,m7];simp only
    cases o with
    | none=>
     exact⟨_,rfl,by rw[VS,GS];exact .inl ⟨rfl,by simp,none,0,some 0,rfl,λ_=>rfl,λh=>un rfl h⟩⟩
    | some q=>
     obtain⟨id,off⟩:=q;rw[hoe ge];simp only;rw[aa,an];exact⟨_,rfl,by rw[VS,GS];exact .inl ⟨rfl,by simp,_,_,_,rfl,λh=>(by cases h),λ_=>rfl⟩⟩
   ·obtain⟨b1,b2,b3⟩:=hbd cap;simp only;rw[hs,m7,b1,m7];simp only;rw[aa,an];refine⟨_,rfl,?_⟩;rw[VS,GS];have m1:l*s<=hh*s:=a8 s b2;have m2:hh*s<=n*s:=a8 s b3;refine .inr ⟨id,off+l*s,bn cap l,row,rfl,h2,by rw[Nat.sub_mul];omega,?_⟩;have:=(h4.drop (l*s)).take ((hh-l)*s);rw[b9,a3,cb,bh (by rw[Nat.sub_mul];omega)] at this;exact this
 ·rename_i o n es c hk
  cases mx with
  | some _=>cases h1
  | none=>
   simp only at h1;obtain⟨⟨e,s⟩,hq,h1⟩:=ul h1;obtain⟨hu,hs⟩:=gj hq;simp only at hu hs;rw[hu];obtain⟨⟨l,hh,m⟩,hb,h1⟩:=ul h1;obtain⟨hse,h1⟩:=cu h1;cases h1;simp only at hse;subst hse;rw[VS] at hv;subst hv;simp only;rw[hs,m7,hb,m7];simp only;rw[aa,an]
   cases lo with
   | none=>
    have hl0:l=0:=by
     unfold cQ at hb;simp only at hb;obtain⟨q,hq,hb⟩:=ul hb;simp only[qr,m8] at hb;exact hb.1.symm
    subst hl0;exact⟨_,rfl,by rw[VS,bB]⟩
   | some _=>exact⟨_,rfl,by rw[VS,bb]⟩
 ·rename_i o off n es c hk
  cases mx with
  | some _=>cases h1
  | none=>
   simp only at h1;obtain⟨⟨e,s⟩,hq,h1⟩:=ul h1;obtain⟨hu,hs⟩:=gj hq;simp only at hu hs;rw[hu];obtain⟨⟨l,hh,m⟩,hb,h1⟩:=ul h1;obtain⟨hse,h1⟩:=cu h1;cases h1;simp only at hse;subst hse;rw[VS] at hv;subst hv;simp only;rw[hs,m7,hb,m7];simp only;rw[aa,an];exact⟨_,rfl,by rw[VS]⟩
 ·rename_i hk;obtain⟨⟨e,s⟩,hq,h1⟩:=ul h1;obtain⟨hu,hs⟩:=gj hq;simp only at hu hs;rw[hu];obtain⟨⟨l,hh,m⟩,hb,rfl⟩:=aw h1;rw[VS] at hv;subst hv;simp only;rw[hs,m7,hb,m7];exact⟨_,rfl,by rw[VS]⟩
 ·rename_i e0 hk;obtain⟨⟨e,s⟩,hq,h1⟩:=ul h1;obtain⟨hu,hs⟩:=gj hq;simp only at hu hs;rw[hu];obtain⟨⟨l,hh,m⟩,hb,h1⟩:=ul h1;obtain⟨⟨hl0,hh0,hm0,hse⟩,h5⟩:=cu h1;clear h1;cases h5;simp only at hse;subst hl0;subst hh0;subst hm0;subst hse;rw[VS] at hv;obtain⟨o,e',rfl,hoe⟩:=hv;simp only;rw[hs,m7,hb,m7];simp only
  cases o with
  | none=>exact⟨_,rfl,by rw[VS];exact⟨none,0,rfl,λh=>un rfl h⟩⟩
  | some q=>
   obtain⟨id,off⟩:=q;rw[hoe ge];simp only;rw[aa,an];exact⟨_,rfl,by rw[VS];exact⟨_,_,rfl,λ_=>rfl⟩⟩
 ·cases h1
end
section
variable {θ θ':Nat->Loc} {ρ ρ0:jY} {P:Program}
variable{h0:En}{h:H}{S:List SO}{v:SV}{x:AV}
def Jz(hR:RS θ ρ0 ρ h0 h S)(hv:VS θ ρ v x){e:List AV×List SV}(he:Ao S v=some e):
 (x=.map none/\e=([],[]))\/∃id l c,x=.map (some id)/\h.mapOf id=some (l,c)/\l.map (·.1)=e.1/\db θ ρ e.2 (l.map (·.2.1)):=by
 unfold Ao at he;split at he
 ·rename_i o;rw[VS] at hv;subst hv;split at he
  ·rename_i ks vs b hS;cases he;obtain⟨_,l,c,q1,⟨q2,_⟩,q3⟩:=hR.obj o _ hS gt;exact .inr ⟨_,l,c,rfl,by unfold H.mapOf;rw[q1],q2,q3⟩
  ·cases he
 ·cases he;rw[VS,GS] at hv;obtain⟨id,l,c,rfl,h2,h3,h4⟩:=hv;exact .inr ⟨id,l,c,rfl,by unfold H.mapOf;rw[(hR.row id _ h2).2.1],h3.1,h4.vs⟩
 ·cases he;rw[VS] at hv;subst hv;exact .inl ⟨rfl,rfl⟩
 ·cases he
variable{t:TypeId}{w:SV}{y:AV}
def HV(hR:RS θ ρ0 ρ h0 h S){k:SV}{ok:Bool}(hv:VS θ ρ v x)(hk:VS θ ρ k y)(hl:iZ P S t v k ok=some w):∃z,rj P h t x y ok=some z/\VS θ ρ w z:=by
 unfold iZ at hl;obtain⟨⟨kt,et⟩,hm,hl⟩:=ul hl;obtain⟨ka,hka,hl⟩:=ul hl;have:=jA hk hka;subst this;obtain⟨hkey,hl⟩:=aH hl;obtain⟨⟨ks,vs⟩,hent,hl⟩:=ul hl;obtain⟨r,hf,hl⟩:=ul hl;obtain⟨⟨u,b⟩,hu,rfl⟩:=aw hl;unfold rj;rw[hm,m7];simp only;rw[hkey,an]
 have fin:∀z:AV,VS θ ρ u z->VS θ ρ (cond ok (.cA [u,.a (.bool b)]) u) (cond ok (.cA [z,.bool b]) z):=by
  intro z hz;cases ok
  ·exact hz
  ·rw[an,an,VS];refine⟨_,rfl,?_⟩;rw[aN];refine⟨z,_,rfl,hz,?_⟩;rw[aN];exact⟨_,[],rfl,by rw[VS],by rw[bl]⟩
 rcases Jz hR hv hent with⟨rfl,he⟩ | ⟨id,l,c,rfl,h1,h2,h3⟩
 ·cases he;simp only[td,qr] at hf;subst hf;obtain⟨z,hz,hu⟩:=aw hu;cases hu;simp only[m7,gL,hz,m6];exact⟨_,rfl,fin _ (ze z)⟩
 ·simp only at h2 h3 hf;simp only[h1,m6,m7];rw[tf,h2,hf,m7]
  cases r with
  | none=>
   obtain⟨z,hz,hu⟩:=aw hu;cases hu;simp only[hz,m6];exact⟨_,rfl,fin _ (ze z)⟩
  | some i=>
   obtain⟨e,he,hu⟩:=aw hu;cases hu;obtain⟨z,hz,kz⟩:=h3.get he;rw[a5] at hz;obtain⟨e3,he3,rfl⟩:=aw hz;simp only[he3,m6];exact⟨_,rfl,fin _ kz⟩
def rl{α:Type}(g:AV×AV×Nat->α)(x:AV×AV×Nat):∀(l:List (AV×AV×Nat)) (i:Nat),(setAt x l i).map g=(l.map g).set i (g x)
 | [],i=>by cases i<;>rfl
 | e::l,0=>rfl
 | e::l,i+1=>by
  rw[setAt,am,am,List.set_cons_succ,rl g x l i]
def nK.snoc{l:List (AV×AV×Nat)}{c:Nat}(h:nK l c)(k v:AV):nK (l++[(k,v,c)]) (c+1):=by
 refine⟨?_,λe he=>?_⟩
 ·rw[bt,List.nodup_append];refine⟨h.1,by simp,?_⟩;intro a ha b hb;obtain⟨e,he,rfl⟩:=mem_map.1 ha;simp only[am,bu,List.mem_singleton] at hb;subst hb;exact Nat.ne_of_lt (h.2 e he)
 ·rcases List.mem_append.1 he with he | he
  ·exact Nat.lt_succ_of_lt (h.2 e he)
  ·rw[t6 he];exact bw _
def nK.P2{l l':List (AV×AV×Nat)}{c:Nat}(h:nK l c)(hb:l'.map (·.2.2)=l.map (·.2.2)):nK l' c:=by
 refine⟨by rw[hb];exact h.1,λe he=>?_⟩;have:e.2.2∈l'.map (·.2.2):=List.mem_map_of_mem he;rw[hb] at this;obtain⟨e',he',q⟩:=mem_map.1 this;rw[<-q];exact h.2 e' he'
variable{S':List SO}
def yI(hR:RS θ ρ0 ρ h0 h S){k:SV}{z:AV}(hv:VS θ ρ v x)(hk:VS θ ρ k y)(hw:VS θ ρ w z)(hl:ij P S t v k w=some S'):∃h',kj P h t x y z=some h'/\RS θ ρ0 ρ h0 h' S':=by
 unfold ij at hl;obtain⟨⟨kt,et⟩,hm,hl⟩:=ul hl;obtain⟨ka,hka,hl⟩:=ul hl;have:=jA hk hka;subst this;obtain⟨hkey,hl⟩:=aH hl;unfold kj;rw[hm,m7];simp only;rw[hkey,an]
 cases v with
 | map o=>
  rw[VS] at hv;subst hv;simp only at hl ⊢;split at hl
  ·rename_i ks vs b hS;obtain⟨_,l,c,q1,⟨q2,qb,qp⟩,q3⟩:=hR.obj o _ hS gt
   have hmo:h.mapOf (θ o).id=some (l,c):=by unfold H.mapOf;rw[q1]
   obtain⟨r,hf,hl⟩:=ul hl;rw[hmo,m7];simp only;rw[tf,q2,hf,m7]
   cases r with
   | none=>
    simp only at hl ⊢;cases hl;refine⟨_,rfl,hR.RR hS ?_ ?_⟩
    ·refine⟨by rw[bt,q2];rfl,qb.snoc _ _,λp hp=>?_⟩;obtain⟨p0,hp0,rfl⟩:=aw hp;obtain⟨e1,e2⟩:=qp p0 hp0;exact⟨by rw[bt,e1,e2];rfl,by rw[e2]⟩
    ·rw[bt];refine q3.app ?_;rw[am,bu,aN];exact⟨_,[],rfl,hw,by rw[bl]⟩
   | some i=>
    simp only at hl ⊢;obtain⟨k0,hk0,hl⟩:=ul hl;obtain⟨hst,hl⟩:=aH hl;cases hl;rw[<-q2,a5] at hk0;obtain⟨e3,he3,rfl⟩:=aw hk0;rw[he3,m7,hst,an];refine⟨_,rfl,hR.RR hS ?_ ?_⟩
    ·have hb:(setAt (y,z,e3.2.2) l i).map (·.2.2)=l.map (·.2.2):=by
      rw[rl];apply List.ext_getElem?;intro j;rw[List.getElem?_set];split
      ·rename_i e;subst e;split
       ·rw[a5,he3];rfl
       ·rename_i hl;rw[aW] at hl;rw[a6 (by rw[aW];omega)]
      ·rfl
     exact⟨by rw[rl,q2],qb.P2 hb,λp hp=>by rw[hb];exact qp p hp⟩
    ·rw[rl];exact q3.set i hw
  ·cases hl
 | _=>simp at hl
def db.erase:∀{ds:List SV} {aS:List AV} (i:Nat),db θ ρ ds aS->db θ ρ (ds.eraseIdx i) (aS.eraseIdx i)
 | [],aS,i,h=>by rw[bl] at h;subst h;rw[co,co,bl]
 | d::ds,aS,i,h=>by
  rw[aN] at h;obtain⟨a,r,rfl,h1,h2⟩:=h
  cases i with
  | zero=>exact h2
  | succ i=>rw[a4,a4,aN];exact⟨a,_,rfl,h1,db.erase i h2⟩
def fh{α β:Type}(g:α->β):∀(l:List α) (i:Nat),(l.eraseIdx i).map g=(l.map g).eraseIdx i
 | [],i=>by simp
 | a::l,0=>rfl
 | a::l,i+1=>by rw[a4,am,am,a4,fh g l i]
def Pt(hR:RS θ ρ0 ρ h0 h S){k:SV}(hv:VS θ ρ v x)(hk:VS θ ρ k y)(hl:KQ P S t v k=some S'):∃h',sQ P h t x y=some (.cA [],h')/\RS θ ρ0 ρ h0 h' S':=by
 unfold KQ at hl;obtain⟨⟨kt,et⟩,hm,hl⟩:=ul hl;obtain⟨ka,hka,hl⟩:=ul hl;have:=jA hk hka;subst this;obtain⟨hkey,hl⟩:=aH hl;unfold sQ;rw[hm,m7];simp only;rw[hkey,an]
 cases v with
 | map o=>
  rw[VS] at hv;subst hv;simp only at hl ⊢;split at hl
  ·rename_i ks vs b hS;obtain⟨_,l,c,q1,⟨q2,qb,qp⟩,q3⟩:=hR.obj o _ hS gt
   have hmo:h.mapOf (θ o).id=some (l,c):=by unfold H.mapOf;rw[q1]
   obtain⟨r,hf,rfl⟩:=aw hl;rw[hmo,m7];simp only;rw[tf,q2,hf,m6]
   cases r with
   | none=>exact⟨_,rfl,hR⟩
   | some i=>
    refine⟨_,rfl,hR.RR hS ?_ ?_⟩
    ·refine⟨by rw[fh,q2],⟨by rw[fh];exact qb.1.sublist (List.eraseIdx_sublist _ _),λe he=>qb.2 e (List.mem_of_mem_eraseIdx he)⟩,λp hp=>?_⟩;obtain⟨p0,hp0,rfl⟩:=aw hp;obtain⟨e1,e2⟩:=qp p0 hp0;exact⟨by rw[fh,e1],e2⟩
    ·rw[fh];exact q3.erase i
  ·cases hl
 | _=>simp at hl
variable{n:Nat}
def PQ(hR:RS θ ρ0 ρ h0 h S)(hv:VS θ ρ v x)(hl:yB P S t v=some n):Fq P h t x=some (.int .i64 (n:Int)):=by
 unfold yB at hl;unfold Fq;split at hl
 ·rename_i s hk;rw[yA hk];rw[VS] at hv;subst hv;cases hl;rfl
 ·rename_i n' _ cs hk;obtain⟨e,hu⟩:=pC hk;rw[hu];rw[VS,GS] at hv;cases hl
  rcases hv with⟨rfl,_,o,e',c,rfl,_,_⟩ | ⟨id,off,cap,row,rfl,_⟩<;>rfl
 ·rename_i o n' _ c hk;obtain⟨e,hu⟩:=pC hk;rw[hu];rw[VS] at hv;subst hv;cases hl;rfl
 ·rename_i n' _ c hk;obtain⟨e,hu⟩:=pC hk;rw[hu];rw[VS] at hv;subst hv;cases hl;rfl
 ·rename_i hk;obtain⟨kt,et,hu⟩:=Nu hk;rw[hu];obtain⟨e,he,rfl⟩:=aw hl
  rcases Jz hR hv he with⟨rfl,rfl⟩ | ⟨id,l,c,rfl,h1,h2,h3⟩
  ·rfl
  ·simp only[h1,m6,<-h2,aW];rfl
 ·rename_i o off n' _ c hk;obtain⟨e,hu⟩:=pC hk;rw[hu];rw[VS] at hv;subst hv;cases hl;rfl
 ·rename_i e hk;obtain⟨e,hu⟩:=pC hk;rw[hu];rw[VS] at hv;obtain⟨o,e',rfl,_⟩:=hv;cases hl;rfl
 ·cases hl
def Ga(hR:RS θ ρ0 ρ h0 h S){s m:Nat}{new:List SV}(hv:VS θ ρ v x)(hl:tP S s v=some (m,new)):
 ∃o es c xs,x=.slice o m es c/\(beq es s||beq m 0)=true/\cH h o m s=some xs/\db θ ρ new xs:=by
 unfold tP at hl;split at hl
 ·rename_i n e cs;obtain⟨hb,hl⟩:=cu hl;cases hl;subst hb;rw[VS,GS] at hv
  rcases hv with⟨rfl,rfl,o,e',c,rfl,_,_⟩ | ⟨id,off,cap,row,rfl,h2,h3,h4⟩
  ·refine⟨o,e',c,[],rfl,by simp,?_,by rw[bl]⟩;unfold cH
   cases o with
   | none=>rfl
   | some q=>rfl
  ·refine⟨_,e,cap,(row.drop off).take (m*e),rfl,by rw[aa,ci],?_,h4.vs⟩;unfold cH;simp only;cases hm:beq m 0
   ·rw[au,me,F9 hR h2];simp only[m7,lk];rw[fc h3,an]
   ·have:=cV hm;subst this;rw[an,bB,bi]
 ·rename_i o n e c;split at hl
  ·rename_i cs hS;obtain⟨⟨hes,hle⟩,hl⟩:=cu hl;cases hl;subst hes;rw[VS] at hv;subst hv;obtain⟨_,aS,q1,q2,_⟩:=hR.obj o _ hS gt;refine⟨_,e,c,aS.take (m*e),rfl,by rw[aa,ci],?_,q2.take _⟩;unfold cH;simp only;cases hm:beq m 0
   ·rw[au,me];unfold rM;rw[q1];simp only[m7,lk];show lk aS 0 (m*e)=_;unfold lk;rw[fc (show 0+m*e<=aS.length by rw[q2.length];omega),an,b0]
   ·have:=cV hm;subst this;rw[an,bB,bi]
  ·cases hl
 ·cases hl;rw[VS] at hv;subst hv;exact⟨none,0,some 0,[],rfl,by simp,rfl,by rw[bl]⟩
 ·rename_i o off n e c;split at hl
  ·rename_i cs hS;obtain⟨⟨hes,hle⟩,hl⟩:=cu hl;cases hl;subst hes;rw[VS] at hv;subst hv;obtain⟨_,aS,q1,q2,_⟩:=hR.obj o _ hS gt;refine⟨_,e,c,(aS.drop off).take (m*e),rfl,by rw[aa,ci],?_,(q2.drop off).take _⟩;unfold cH;simp only;cases hm:beq m 0
   ·rw[au,me];unfold rM;rw[q1];simp only[m7,lk];show lk aS off (m*e)=_;unfold lk;rw[fc (show off+m*e<=aS.length by rw[q2.length];omega),an]
   ·have:=cV hm;subst this;rw[an,bB,bi]
  ·cases hl
 ·cases hl;rw[VS] at hv;obtain⟨o,e',rfl,_⟩:=hv;refine⟨o,e',some 0,[],rfl,by simp,?_,by rw[bl]⟩;unfold cH
  cases o with
  | none=>rfl
  | some q=>rfl
 ·cases hl
def FH{a b:Nat}(h:a≠b):beq a b=false:=by
 cases hb:beq a b
 ·rfl
 ·exact un (cV hb) h
def H5(hR:RS θ ρ0 ρ h0 h S){xt e:TypeId}{s m:Nat}{z:AV}{new:List SV}(hz:dq P e=some z)(hzl:z.cells.length=s)(hw:VS θ ρ w y)(hl:xk P S xt s z w=some (m,new)):
 ∃xs,mc P h e s xt y=some (m,xs)/\db θ ρ new xs:=by
 unfold xk at hl;unfold mc;split at hl
 ·rename_i hk;obtain⟨e',hux⟩:=pC hk;obtain⟨o,es,c,xs,rfl,k1,k2,k3⟩:=Ga hR hw hl;rw[hux];simp only;rw[k1,an,k2];exact⟨xs,rfl,k3⟩
 ·obtain⟨hi,hl⟩:=aH hl;obtain⟨n,hn,hl⟩:=ul hl;obtain⟨hb,hl⟩:=cu hl;cases hl;unfold isInt at hi;split at hi
  ·rename_i kk hu;rw[hu];simp only;rw[C0 hw hn,m7,hz,m7,fc hb,hzl,aa,ad,an];exact⟨_,rfl,db.a _⟩
  ·cases hi
 ·cases hl
variable{r:SV}
def Hl(hR:RS θ ρ0 ρ h0 h S){st xt:TypeId}{kill:Option Nat}(hv:VS θ ρ v x)(hw:VS θ ρ w y)(hl:wS P S st xt v w=some (r,S',kill)):
 ∃z h' θ',sH P h st xt x y=some (z,h')/\RS θ' ρ0 ρ h0 h' S'/\VS θ' ρ r z/\∀v x,VS θ ρ v x->VS θ' ρ (jF kill v) x:=by
 unfold wS at hl;have hl2:=ul hl;clear hl;obtain⟨⟨e,s⟩,hel,hl⟩:=hl2;obtain⟨hu,hs⟩:=gj hel;simp only at hu hs hl;obtain⟨i,hi,rfl⟩:=aw hs;have hl2:=ul hl;clear hl;obtain⟨z,hz,hl⟩:=hl2;have hl2:=cu hl;clear hl;obtain⟨⟨b1,b2,b3⟩,hl⟩:=hl2;have hl2:=ul hl;clear hl;obtain⟨⟨m,new⟩,hrow,hl⟩:=hl2;unfold pc at b3;rw[hi] at b3;simp only at b3 hl;have b2':=FH b2;obtain⟨xs,happ,k3⟩:=H5 hR hz b1 hw hrow;unfold sH;rw[hu];by_cases hm:m=0
 ·rw[ut hm] at hl
  have hmb:beq m 0=true:=by rw[hm];rfl
  unfold Mq at hl;split at hl
  ·cases hl;have hv':=hv;rw[VS] at hv;subst hv;simp only[hi,hz,m7,b1,b2',b3,aa,fc (show 0<=1000000 by omega),aL,ad,an,happ,hmb];exact⟨_,_,θ,rfl,hR,hv',λv x h=>h⟩
  ·obtain⟨hn,hl⟩:=cu hl;cases hl;have hv':=hv;rw[VS] at hv;subst hv;simp only[hi,hz,m7,b1,b2',b3,aa,fc hn,aL,ad,an,happ,hmb];exact⟨_,_,θ,rfl,hR,hv',λv x h=>h⟩
  ·cases hl;have hv':=hv;rw[VS] at hv;obtain⟨o',e',rfl,_⟩:=hv;simp only[hi,hz,m7,b1,b2',b3,aa,fc (show 0<=1000000 by omega),aL,ad,an,happ,hmb];exact⟨_,_,θ,rfl,hR,hv',λv x h=>h⟩
  ·cases hl
 ·rw[v6 hm] at hl;have hmb:=FH hm;have hl2:=cu hl;clear hl;obtain⟨⟨b4,b5⟩,hl⟩:=hl2;have hone:=ma k3 b5;unfold Ky at hl;split at hl
  ·rw[VS] at hv;subst hv;cases hl;obtain⟨n1,n2⟩:=hR.new (so:=.cells new) (ob:=.cells xs h.next) (.inl ⟨new,xs,rfl,rfl,k3⟩);simp only[hi,hz,m7,b1,b2',b3,aa,fc (show 0<=1000000 by omega),aL,ad,an,happ,hmb,au,fc b4,H.mK];refine⟨_,_,_,rfl,n1,?_,n2⟩;rw[VS,cI]
  ·rename_i o' n es';rw[VS] at hv;subst hv;split at hl
   ·rename_i cs hS;obtain⟨⟨c1,c2,c3⟩,hl2⟩:=cu hl;cases hl2;subst c1;obtain⟨_,aS,q1,q2,q3⟩:=hR.obj o' _ hS gt;obtain⟨f1,f2,f3⟩:=hR.fork hS k3 q1 c3
    have hle:ble (n*i.size) aS.length=true:=by rw[q2.length];exact fc c3
    simp only[hi,hz,m7,b1,b2',b3,fc c2,aL,ad,an,happ,hmb,au,fc b4,aa,q1,hle,hone,bb];refine⟨_,_,_,rfl,f2,?_,f3⟩;rw[VS,cI,f1]
   ·cases hl
  ·rename_i e';obtain⟨c1,hl2⟩:=cu hl;cases hl2;rw[VS] at hv;obtain⟨o',e'',rfl,ho'⟩:=hv;obtain⟨n1,n2⟩:=hR.new (so:=.cells new) (ob:=.cells xs h.next) (.inl ⟨new,xs,rfl,rfl,k3⟩)
   cases o' with
   | none=>
    simp only[hi,hz,m7,b1,b2',b3,aa,fc (show 0<=1000000 by omega),aL,ad,an,happ,hmb,au,fc b4,H.mK];refine⟨_,_,_,rfl,n1,?_,n2⟩;rw[VS,cI]
   | some q=>
    have:=ho' ge;subst this;subst c1;obtain⟨id,off⟩:=q
    have hnl:ble (0+m) 0=false:=by
     cases hb:ble (0+m) 0
     ·rfl
     ·have:=md hb;omega
    have hsc:cH h (some (id,off)) 0 i.size=some []:=rfl;simp only[hi,hz,m7,b1,b2',b3,aa,fc (show 0<=1000000 by omega),aL,ad,an,happ,hmb,au,fc b4,H.mK,hnl,hsc,m6,c0];refine⟨_,_,_,rfl,n1,?_,n2⟩;rw[VS,cI,bb]
  ·rename_i o' n es' c';rw[VS] at hv;subst hv;split at hl
   ·rename_i cs hS;obtain⟨⟨c1,c2,c3,c4⟩,hl2⟩:=cu hl;cases hl2;subst c1;obtain⟨_,aS,q1,q2,q3⟩:=hR.obj o' _ hS gt;obtain⟨n1,n2⟩:=hR.new (so:=.cells (cs.take (n*i.size)++new)) (ob:=.cells (aS.take (n*i.size)++xs) h.next) (.inl ⟨_,_,rfl,rfl,(q2.take _).app k3⟩)
    have hnl:ble (n+m) c'=false:=by
     cases hb:ble (n+m) c'
     ·rfl
     ·have:=md hb;omega
    have hsc:cH h (some ((θ o').id,0)) n i.size=some (aS.take (n*i.size)):=by
     unfold cH;simp only;cases hm:beq n 0
     ·rw[au,me];unfold rM;rw[q1];simp only[m7];show lk aS 0 (n*i.size)=_;unfold lk;rw[fc (show 0+n*i.size<=aS.length by rw[q2.length];omega),an,b0]
     ·have:=cV hm;subst this;rw[an,bB,bi]
    simp only[hi,hz,m7,b1,b2',b3,fc c2,aL,ad,an,happ,hmb,au,fc b4,aa,hnl,hsc,m6,H.mK];refine⟨_,_,_,rfl,n1,?_,n2⟩;rw[VS,cI]
   ·cases hl
  ·cases hl
def Pj{x:SV}{a:AV}{c:Nat}(hv:VS θ ρ x a)(hc:Hq x=some c):∃o n e,a=.slice o n e (some c):=by
 unfold Hq at hc;split at hc
 ·cases hc;rw[VS] at hv;exact⟨_,_,_,hv⟩
 ·cases hc;rw[VS] at hv;exact⟨_,_,_,hv⟩
 ·cases hc;rw[VS] at hv;exact⟨_,_,_,hv⟩
 ·cases hc;rw[VS] at hv;obtain⟨o,e',rfl,_⟩:=hv;exact⟨_,_,_,rfl⟩
 ·cases hc
variable{o:Nat}
def Mw{x:SV}{a:AV}{off e:Nat}(hv:VS θ ρ x a)(hc:Sq x=some (o,off,n,e)):∃c,a=.slice (some ((θ o).id,off)) n e c:=by
 unfold Sq at hc;split at hc
 ·cases hc;rw[VS] at hv;exact⟨_,hv⟩
 ·cases hc;rw[VS] at hv;exact⟨_,hv⟩
 ·cases hc
def MU(hR:RS θ ρ0 ρ h0 h S){kill:Option Nat}(hv:VS θ ρ v x)(hw:VS θ ρ w y)(hl:Jy P S t v w=some (r,S',kill)):
 ∃z h' θ',EI P h t x y=some (z,h')/\RS θ' ρ0 ρ h0 h' S'/\VS θ' ρ r z/\∀v x,VS θ ρ v x->VS θ' ρ (jF kill v) x:=by
 unfold Jy at hl;obtain⟨⟨e,s⟩,hel,hl⟩:=ul hl;obtain⟨hu,hs⟩:=gj hel;obtain⟨⟨o,off,dl,des⟩,hat,hl⟩:=ul hl;obtain⟨⟨m,new⟩,hrow,hl⟩:=ul hl;obtain⟨cap,rfl⟩:=Mw hv hat;obtain⟨o',es,c,xs,rfl,k1,k2,k3⟩:=Ga hR hw hrow;simp only at hl hu hs hrow k2;unfold EI;rw[hu];simp only;rw[hs,m7];unfold MT at hl;by_cases hn:Nat.min m dl=0
 ·rw[ut hn] at hl;cases hl;rw[hn];exact⟨_,_,θ,rfl,hR,by rw[VS],λv x h=>h⟩
 ·rw[v6 hn] at hl;split at hl
  ·rename_i cs hS;obtain⟨⟨c1,c2,c3,c4⟩,hl2⟩:=cu hl;cases hl2;subst c1;have hm:m≠0:=λe=>hn (by rw[e];exact Nat.zero_min _)
   have hes:es=des:=by
    rw[FH hm,dc] at k1;exact cV k1
   subst hes;have hmn:Nat.min m dl<=m:=Nat.min_le_left _ _;generalize Nat.min m dl=n at *
   obtain⟨id,off',row,rfl,hch⟩:∃id off' row,o'=some (id,off')/\rM h.aV id=some row/\off'+m*es<=row.length/\xs=(row.drop off').take (m*es):=by
    unfold cH at k2
    cases o' with
    | none=>simp[FH hm] at k2
    | some q=>
     obtain⟨id,off'⟩:=q;simp only[FH hm,au,me] at k2;obtain⟨row,hr,k2⟩:=ul k2;unfold lk at k2;obtain⟨hb,k2⟩:=aH k2;exact⟨id,off',row,rfl,hr,md hb,by cases k2;rfl⟩
   have hle:n*es<=m*es:=a8 _ hmn
   have hsc:cH h (some (id,off')) n es=some (xs.take (n*es)):=by
    unfold cH;simp only[FH hn,au,me,hch.1,m7];unfold lk;rw[fc (show off'+n*es<=row.length by omega),an,hch.2.2,cb,bh hle]
   have hl1:(new.take (n*es)).length=n*es:=by rw[ce,bh c3]
   obtain⟨h',e1,e2,e3⟩:=hR.store (off:=off) hS (k3.take (n*es)) (ma (k3.take _) c4) (by rw[hl1];exact c2);refine⟨_,h',_,?_,by rw[hl1] at e2;exact e2,by rw[VS],e3⟩;rw[FH hn,au,aa,ad,an,hsc,m7];simp only[e1,m6];rfl
  ·cases hl
def KL(hR:RS θ ρ0 ρ h0 h S){kill:Option Nat}(hv:VS θ ρ v x)(hl:Cp P S t v=some (r,S',kill)):
 ∃z h' θ',xP P h t x=some (z,h')/\RS θ' ρ0 ρ h0 h' S'/\VS θ' ρ r z/\∀v x,VS θ ρ v x->VS θ' ρ (jF kill v) x:=by
 unfold Cp at hl;obtain⟨⟨e,s⟩,hel,hl⟩:=ul hl;obtain⟨hu,hs⟩:=gj hel;obtain⟨z,hz,hl⟩:=ul hl;obtain⟨⟨o,off,n,es⟩,hat,hl⟩:=ul hl;obtain⟨cap,rfl⟩:=Mw hv hat;simp only at hl hu hs hz;unfold xP;rw[hu];simp only;rw[hs,m7,hz,m7];by_cases hn:n=0
 ·rw[ut hn] at hl;cases hl;subst hn;exact⟨_,_,θ,rfl,hR,by rw[VS];rfl,λv x h=>h⟩
 ·rw[v6 hn] at hl;split at hl
  ·rename_i cs hS;obtain⟨⟨c1,c2,c3,c4⟩,hl2⟩:=cu hl;cases hl2;subst c1
   have hl1:((rep z.cells n).map SV.a).length=n*es:=by
    rw[aW,fZ,c2]
   obtain⟨h',e1,e2,e3⟩:=hR.store (off:=off) hS (db.a (rep z.cells n)) c4 (by rw[hl1];exact c3);refine⟨_,h',_,?_,by rw[hl1] at e2;exact e2,by rw[VS],e3⟩;rw[FH hn,au,aa,c2,aa,ad,an];simp only[e1,m6];rfl
  ·cases hl
variable{vs:List SV}
def EC(hR:RS θ ρ0 ρ h0 h S){b:Builtin}{ats:List TypeId}{xs:List AV}{kill:Option Nat}(hv:db θ ρ vs xs)(hl:gH P S b ats vs=some (r,S',kill)):
 ∃z h' θ',mA P h b ats xs=some (z,h')/\RS θ' ρ0 ρ h0 h' S'/\VS θ' ρ r z/\∀v x,VS θ ρ v x->VS θ' ρ (jF kill v) x:=by
 unfold gH at hl;split at hl
 ·rename_i st xt l x y;rw[aN] at hv;obtain⟨a,r1,rfl,h1,hv⟩:=hv;rw[aN] at hv;obtain⟨a2,r2,rfl,h2,hv⟩:=hv;rw[bl] at hv;subst hv;have:=Hl hR h1 h2 hl;exact this
 ·rename_i t l x xs';rw[aN] at hv;obtain⟨a,r1,rfl,h1,hv⟩:=hv;obtain⟨n,hn,hl⟩:=aw hl;cases hl;have:=PQ hR h1 hn;refine⟨.int .i64 (n:Int),h,θ,?_,hR,?_,λv x h=>h⟩
  ·show(Fq P h t a).map (λv=>(v,h))=_;rw[this];rfl
  ·rw[VS]
 ·rename_i x l;rw[aN] at hv;obtain⟨a,r1,rfl,h1,hv⟩:=hv;obtain⟨n,hn,hl⟩:=aw hl;cases hl;obtain⟨z,hz,kz⟩:=CX h1 hv hn;refine⟨z,h,θ,?_,hR,kz,λv x h=>h⟩;unfold mA;split<;>simp_all
 ·rename_i x l;rw[aN] at hv;obtain⟨a,r1,rfl,h1,hv⟩:=hv;obtain⟨n,hn,hl⟩:=aw hl;cases hl;obtain⟨z,hz,kz⟩:=CX h1 hv hn;refine⟨z,h,θ,?_,hR,kz,λv x h=>h⟩;unfold mA;split<;>simp_all
 ·rename_i t l x k l';rw[aN] at hv;obtain⟨a,r1,rfl,h1,hv⟩:=hv;rw[aN] at hv;obtain⟨a2,r2,rfl,h2,hv⟩:=hv;obtain⟨S2,hS2,hl⟩:=aw hl;cases hl;obtain⟨h',e1,e2⟩:=Pt hR h1 h2 hS2;exact⟨_,h',θ,e1,e2,by rw[VS];rfl,λv x h=>h⟩
 ·rename_i dt l x y;rw[aN] at hv;obtain⟨a,r1,rfl,h1,hv⟩:=hv;rw[aN] at hv;obtain⟨a2,r2,rfl,h2,hv⟩:=hv;rw[bl] at hv;subst hv;exact MU hR h1 h2 hl
 ·rename_i t l x;rw[aN] at hv;obtain⟨a,r1,rfl,h1,hv⟩:=hv;rw[bl] at hv;subst hv;exact KL hR h1 hl
 ·rename_i t l x;rw[aN] at hv;obtain⟨a,r1,rfl,h1,hv⟩:=hv;rw[bl] at hv;subst hv;obtain⟨⟨e,s⟩,hel,hl⟩:=ul hl;obtain⟨hu,_⟩:=gj hel;obtain⟨c,hc,hl⟩:=aw hl;cases hl;obtain⟨o,n,e',rfl⟩:=Pj h1 hc;refine⟨.int .i64 (c:Int),h,θ,?_,hR,by rw[VS],λv x h=>h⟩;show(match P.underlying t with | some (.slice _)=>some (AV.int .i64 (ofNat c),h) | _=>none)=_;rw[hu];rfl
 ·cases hl
def N3{c a b:Option SV}(h:J0 c a b=some v):∃z x y,c=some (.a (.bool z))/\a=some x/\b=some y/\v=cond z x y:=by
 unfold J0 at h;split at h
 ·cases h;exact⟨_,_,_,rfl,rfl,rfl,rfl⟩
 ·cases h
def FR.ly{f:Fm}{af:Nat->AV}{n:Nat}{kill:Option Nat}{wv:Nat->AV}(hF:FR θ ρ (aJ f) af n wv)(hk:∀v x,VS θ ρ v x->VS θ' ρ (jF kill v) x):FR θ' ρ (aJ (Ev.ly f kill)) af n wv:=by
 refine⟨λi=>?_,hF.u⟩;have:=hk _ _ (hF.v i)
 cases kill with
 | none=>exact this
 | some o=>show VS θ' ρ (aJ (bZ o f) i) _;rw[ew];exact this
variable{f:Fm}{af:Nat->AV}{wv:Nat->AV}
def FR.put(hF:FR θ ρ (aJ f) af n wv){d:Nat}(hd:d<n)(hv:VS θ ρ v x):FR θ ρ (aJ ((d,v)::f)) (Aj af d x) n wv:=by
 refine⟨λi=>?_,hF.u⟩;show VS θ ρ (if d=i then v else aJ f i) _;by_cases hdi:d=i
 ·subst hdi;rw[ut rfl,ut hd,uu];exact hv
 ·rw[v6 hdi,rG _ _ (λe=>hdi e.symm)];exact hF.v i
def FR.kill{f:Fm}{af:Nat->AV}{n:Nat}{kill:Option Nat}{wv:Nat->AV}(hF:FR θ ρ (aJ f) af n wv)(hk:∀v x,VS θ ρ v x->VS θ' ρ (jF kill v) x){d:Nat}{v:SV}{x:AV}(hd:d<n)(hv:VS θ' ρ v x):FR θ' ρ (aJ (po f kill (some d) v)) (Aj af d x) n wv:=(hF.ly hk).put hd hv
def Ou(hR:RS θ ρ0 ρ h0 h S)(hF:FR θ ρ (aJ f) af n wv){op:Op}{kill:Option Nat}(hop:dx P f S op=some (r,S',kill)):
 ∃rv h' θ',eu P (ei af n) h op=some [(rv,h')]/\RS θ' ρ0 ρ h0 h' S'/\VS θ' ρ r (TG rv)/\∀v x,VS θ ρ v x->VS θ' ρ (jF kill v) x:=by
 have pure:∀{w:SV} {y:AV},eu P (ei af n) h op=some [(some y,h)]->VS θ ρ w y->some (w,S,(none:Option Nat))=some (r,S',kill)->∃rv h' θ',eu P (ei af n) h op=some [(rv,h')]/\RS θ' ρ0 ρ h0 h' S'/\VS θ' ρ r (TG rv)/\∀v x,VS θ ρ v x->VS θ' ρ (jF kill v) x:=by
  intro w y h1 h2 h3;cases h3;exact⟨some y,h,θ,h1,hR,h2,λv x h=>h⟩
 have fresh:∀{so:SO} {ob:AO} {w:SV} {y:AV},eu P (ei af n) h op=some [(some y,{ h.lay h.next ob with next:=h.next+1 })]->((∃cs aS,so=.cells cs/\ob=.cells aS h.next/\db θ ρ cs aS)\/(so=.map [] [] none/\ob=.map [] 0))->VS (gA θ S.length ⟨h.next,h.next,h.next,h.next⟩) ρ w y->some (w,dO S so,some S.length)=some (r,S',kill)->∃rv h' θ',eu P (ei af n) h op=some [(rv,h')]/\RS θ' ρ0 ρ h0 h' S'/\VS θ' ρ r (TG rv)/\∀v x,VS θ ρ v x->VS θ' ρ (jF kill v) x:=by
  intro so ob w y h1 h2 h3 h4;cases h4;obtain⟨k1,k2⟩:=hR.new h2;exact⟨some y,_,_,h1,k1,h3,k2⟩
 cases op with
 | move x=>
  obtain⟨v,hv,e⟩:=aw hop;obtain⟨a,ha,ka⟩:=bT hF hv;exact pure (by rw[Qk,ha];rfl) ka (by rw[e])
 | assign x=>
  obtain⟨v,hv,e⟩:=aw hop;obtain⟨a,ha,ka⟩:=bT hF hv;exact pure (by rw[Lr,ha];rfl) ka (by rw[e])
 | pick c a b=>
  obtain⟨v,hv,e⟩:=aw hop;obtain⟨z,x,y,h1,h2,h3,rfl⟩:=N3 hv;obtain⟨c',g1,k1⟩:=bT hF h1;obtain⟨a',g2,k2⟩:=bT hF h2;obtain⟨b',g3,k3⟩:=bT hF h3;rw[VS] at k1;subst k1;exact pure (w:=cond z x y) (y:=cond z a' b') (by rw[Ql,g1,g2,g3];rfl) (by cases z;exact k3;exact k2) (by rw[e])
 | alloc e=>
  obtain⟨z,hz,he⟩:=aw hop;exact fresh (w:=.ptr S.length 0) (so:=.cells (z.cells.map .a)) (ob:=.cells z.cells h.next) (by rw[NT,hz];rfl) (.inl ⟨_,_,rfl,rfl,db.a _⟩) (by rw[VS,cI]) (by rw[he])
 | box e x=>
  obtain⟨v,hv,hop⟩:=ul hop;obtain⟨cs,hcs,he⟩:=aw hop;obtain⟨a,ha,ka⟩:=bT hF hv;exact fresh (w:=.ptr S.length 0) (so:=.cells cs) (ob:=.cells a.cells h.next) (by rw[RZ,ha];rfl) (.inl ⟨_,_,rfl,rfl,uI ka hcs⟩) (by rw[VS,cI]) (by rw[he])
 | build tt ps=>
  obtain⟨l,hl,hop⟩:=ul hop;obtain⟨v,hv,he⟩:=aw hop;obtain⟨aS,h1,k1⟩:=vn hF hl;obtain⟨a,ha,ka⟩:=KD k1 hv;exact pure (by rw[NV,h1,m7,ha];rfl) ka (by rw[he])
 | buildSlice tt m ps=>
  obtain⟨l,hl,hop⟩:=ul hop;obtain⟨q,hv,he⟩:=aw hop;obtain⟨aS,h1,k1⟩:=vn hF hl;obtain⟨cs,ha,ka⟩:=xM k1 hv;exact fresh (w:=.buf S.length m q.1 (some m)) (so:=.cells q.2) (ob:=.cells cs h.next) (by rw[AD,h1,m7,ha];rfl) (.inl ⟨_,_,rfl,rfl,ka⟩) (by rw[VS,cI]) (by rw[he])
 | makeMap tt x=>
  cases x with
  | none=>
   have he:some ((SV.map S.length,dO S (.map [] [] none),some S.length):SV×List SO×Option Nat)=some (r,S',kill):=hop;exact fresh (w:=.map S.length) (so:=.map [] [] none) (ob:=.map [] 0) (by rw[Ia]) (.inr ⟨rfl,rfl⟩) (by rw[VS,cI]) he
  | some _=>simp[dx] at hop
 | makeSlice tt l c=>
  simp only[dx] at hop;split at hop
  ·rename_i la ca hl hc;obtain⟨q,hq,he⟩:=aw hop;obtain⟨l',g1,k1⟩:=bT hF hl;obtain⟨c',g2,k2⟩:=bT hF hc;rw[VS] at k1 k2;subst k1;subst k2;refine fresh (w:=.buf S.length q.1 q.2.1 (some q.2.2.1)) (so:=.cells (q.2.2.2.map .a)) (ob:=.cells q.2.2.2 h.next) (y:=.slice (some (h.next,0)) q.1 q.2.1 (some q.2.2.1)) ?_ (.inl ⟨_,_,rfl,rfl,db.a _⟩) (by rw[VS,cI]) (by rw[he]);simp only[eu,oX,g1,g2,m7,hq,m6]
  ·cases hop
 | load tt a=>
  obtain⟨a',ha,hop⟩:=ul hop;obtain⟨v,hv,he⟩:=aw hop;obtain⟨x,g1,k1⟩:=bT hF ha;obtain⟨y,g2,k2⟩:=Fs hR k1 hv;exact pure (by rw[Qi,g1,g2];rfl) k2 (by rw[he])
 | store tt a x=>
  obtain⟨a',ha,hop⟩:=ul hop;obtain⟨x',hx,hop⟩:=ul hop;obtain⟨S2,hS,he⟩:=aw hop;cases he;obtain⟨p,g1,k1⟩:=bT hF ha;obtain⟨y,g2,k2⟩:=bT hF hx;obtain⟨h',θ',e1,e2,e3⟩:=LH hR k1 k2 hS;exact⟨none,h',θ',by rw[N0,g1,g2,e1];rfl,e2,by rw[VS];rfl,e3⟩
 | nilCheck x=>
  obtain⟨a',ha,hop⟩:=ul hop;obtain⟨v,hv,he⟩:=aw hop;obtain⟨p,g1,k1⟩:=bT hF ha;obtain⟨e1,rfl⟩:=PW (P:=P) k1 hv;refine pure (y:=p) ?_ k1 (by rw[he]);simp only[eu,g1,m7,e1,m6]
 | binOp op t x y yt=>
  obtain⟨x',hx,hop⟩:=ul hop;obtain⟨y',hy,hop⟩:=ul hop;obtain⟨xa,hxa,hop⟩:=ul hop;obtain⟨ya,hya,hop⟩:=ul hop;obtain⟨v,hv,he⟩:=aw hop;obtain⟨p,g1,k1⟩:=bT hF hx;obtain⟨q,g2,k2⟩:=bT hF hy;have e1:=jA k1 hxa;have e2:=jA k2 hya;subst e1;subst e2;exact pure (w:=.a v) (y:=v) (by rw[NU,g1,g2,m7,m7,hv];rfl) (by rw[VS]) (by rw[he])
 | unOp op t x=>
  obtain⟨x',hx,hop⟩:=ul hop;obtain⟨xa,hxa,hop⟩:=ul hop;obtain⟨v,hv,he⟩:=aw hop;obtain⟨p,g1,k1⟩:=bT hF hx;have e1:=jA k1 hxa;subst e1;exact pure (w:=.a v) (y:=v) (by rw[SZ,g1,m7,hv];rfl) (by rw[VS]) (by rw[he])
 | convert s d x=>
  obtain⟨x',hx,hop⟩:=ul hop;obtain⟨xa,hxa,hop⟩:=ul hop;obtain⟨v,hv,he⟩:=aw hop;obtain⟨p,g1,k1⟩:=bT hF hx;have e1:=jA k1 hxa;subst e1;exact pure (w:=.a v) (y:=v) (by rw[Qg,g1,m7,hv];rfl) (by rw[VS]) (by rw[he])
 | makeInterface t x=>
  simp only[dx] at hop;obtain⟨hi,hop⟩:=aH hop;obtain⟨v,hv,he⟩:=aw hop;obtain⟨p,g1,k1⟩:=bT hF hv;refine pure (w:=.iface t v) (y:=.iface t p) ?_ (by rw[VS];exact⟨p,rfl,k1⟩) (by rw[he]);unfold JI at hi
  cases hu:P.underlying t with
  | none=>rw[hu] at hi;cases hi
  | some d=>
   rw[hu] at hi;rw[NX hu (by cases d<;>first | rfl | cases hi),g1];rfl
 | makeFunc g first cap=>
  cases g with
  | func g=>
   obtain⟨a,ha,hop⟩:=ul hop;obtain⟨b,hb,he⟩:=aw hop;obtain⟨p,g1,k1⟩:=l7 hF ha;obtain⟨q,g2,k2⟩:=l7 hF hb;exact pure (w:=.fn g a b) (y:=.fn (.func g) p q) (by rw[Qh,g1,g2];rfl) (by rw[VS];exact⟨p,q,rfl,k1,k2⟩) (by rw[he])
  | method nm=>
   obtain⟨a,ha,hop⟩:=ul hop;obtain⟨a2,ha2,hop⟩:=ul hop;obtain⟨b,hb,hop⟩:=ul hop;obtain⟨b2,hb2,he⟩:=aw hop;obtain⟨p,g1,k1⟩:=l7 hF ha;obtain⟨q,g2,k2⟩:=l7 hF hb;have e1:=oq k1 ha2;have e2:=oq k2 hb2;subst e1;subst e2;exact pure (w:=.a (.fn (.method nm) p q)) (y:=.fn (.method nm) p q) (by rw[Qj,g1,g2];rfl) (by rw[VS]) (by rw[he])
  | _=>simp[dx] at hop
 | slice tt x lo hi mx=>
  obtain⟨x',hx,hop⟩:=ul hop;obtain⟨lo',hlo,hop⟩:=ul hop;obtain⟨hi',hhi,hop⟩:=ul hop;obtain⟨mx',hmx,hop⟩:=ul hop;obtain⟨v,hv,he⟩:=aw hop;obtain⟨p,g1,k1⟩:=bT hF hx;obtain⟨y,g2,k2⟩:=LG (h:=h) k1 hv;refine pure (y:=y) ?_ k2 (by rw[he]);rw[NZ,g1,Dh hF hlo,Dh hF hhi,Dh hF hmx];simp only[m7,g2,m6]
 | fieldAddr s x fl=>
  obtain⟨x',hx,hop⟩:=ul hop;obtain⟨v,hv,he⟩:=aw hop;obtain⟨p,g1,k1⟩:=bT hF hx;obtain⟨y,g2,k2⟩:=Ar k1 hv;exact pure (by rw[C5,g1,m7,g2];rfl) k2 (by rw[he])
 | field s x fl=>
  obtain⟨x',hx,hop⟩:=ul hop;obtain⟨v,hv,he⟩:=aw hop;obtain⟨p,g1,k1⟩:=bT hF hx;obtain⟨y,g2,k2⟩:=K0 k1 hv;exact pure (by rw[NW,g1,m7,g2];rfl) k2 (by rw[he])
 | indexAddr t x i=>
  obtain⟨x',hx,hop⟩:=ul hop;obtain⟨i',hi,hop⟩:=ul hop;obtain⟨v,hv,he⟩:=aw hop;obtain⟨p,g1,k1⟩:=bT hF hx;obtain⟨q,g3,k3⟩:=bT hF hi;obtain⟨y,g2,k2⟩:=Av k1 k3 hv;exact pure (by rw[C6,g1,g3,m7,m7,g2];rfl) k2 (by rw[he])
 | index t x i=>
  obtain⟨x',hx,hop⟩:=ul hop;obtain⟨i',hi,hop⟩:=ul hop;obtain⟨v,hv,he⟩:=aw hop;obtain⟨p,g1,k1⟩:=bT hF hx;obtain⟨q,g3,k3⟩:=bT hF hi;obtain⟨y,g2,k2⟩:=K7 k1 k3 hv;exact pure (by rw[NY,g1,g3,m7,m7,g2];rfl) k2 (by rw[he])
 | lookup t x k ok=>
  obtain⟨x',hx,hop⟩:=ul hop;obtain⟨i',hi,hop⟩:=ul hop;obtain⟨v,hv,he⟩:=aw hop;obtain⟨p,g1,k1⟩:=bT hF hx;obtain⟨q,g3,k3⟩:=bT hF hi;obtain⟨y,g2,k2⟩:=HV hR k1 k3 hv;exact pure (by rw[Ls,g1,g3,m7,m7,g2];rfl) k2 (by rw[he])
 | mapUpdate t m k x=>
  obtain⟨m',hm,hop⟩:=ul hop;obtain⟨k',hk,hop⟩:=ul hop;obtain⟨x',hx,hop⟩:=ul hop;obtain⟨S2,hS,he⟩:=aw hop;cases he;obtain⟨p,g1,k1⟩:=bT hF hm;obtain⟨q,g2,k2⟩:=bT hF hk;obtain⟨y,g3,k3⟩:=bT hF hx;obtain⟨h',e1,e2⟩:=yI hR k1 k2 k3 hS;refine⟨none,h',θ,?_,e2,by rw[VS];rfl,λv x h=>h⟩;rw[C7,g1,g2,g3];simp only[m7,e1,m6]
 | insert t m k x=>
  obtain⟨m',hm,hop⟩:=ul hop;obtain⟨k',hk,hop⟩:=ul hop;obtain⟨x',hx,hop⟩:=ul hop;obtain⟨S2,hS,he⟩:=aw hop;cases he;obtain⟨p,g1,k1⟩:=bT hF hm;obtain⟨q,g2,k2⟩:=bT hF hk;obtain⟨y,g3,k3⟩:=bT hF hx;obtain⟨h',e1,e2⟩:=yI hR k1 k2 k3 hS;refine⟨none,h',θ,?_,e2,by rw[VS];rfl,λv x h=>h⟩;simp only[eu,g1,g2,g3,m7,e1,m6]
 | extract x i=>
  simp only[dx] at hop;split at hop
  ·rename_i vs hx;obtain⟨v,hv,he⟩:=aw hop;obtain⟨p,g1,k1⟩:=bT hF hx;rw[VS] at k1;obtain⟨aS,rfl,k1⟩:=k1;obtain⟨y,g2,k2⟩:=k1.get hv;refine pure (y:=y) ?_ k2 (by rw[he]);rw[H9,g1];simp only[Bh,g2,m6]
  ·cases hop
 | call c=>
  obtain⟨callee,args,ats⟩:=c
  cases callee with
  | builtin b=>
   obtain⟨xs,hxs,hop⟩:=ul hop;obtain⟨p,g1,k1⟩:=l7 hF hxs;obtain⟨z,h',θ',e1,e2,e3,e4⟩:=EC hR k1 hop;refine⟨some z,h',θ',?_,e2,e3,e4⟩;rw[H8,g1,m7,e1];rfl
  | _=>simp[dx] at hop
 | _=>simp[dx] at hop
end
structure ep where
 f:Fm
 n:Nat
 S:List SO
 ds:List js
def Sr(ds:List js)(j:Nat):AV:=match ds.reverse[j]? with
 | some d=>match d.fn with
  | some f=>.fn f d.args d.cap
  | none=>lH
 | none=>lH
def Hb(w:Nat->AV):List js->Nat->AV
 | [],i=>w i
 | d::ds,i=>if 7000000<=i then Sr (d::ds) (i-7000000) else w i
def jw(ρ0:jY)(h0:En)(st:ep)(ast:gX):Prop:=ast.n=st.n/\ast.ds=st.ds/\∃θ ρ,RS θ ρ0 ρ h0 ast.h st.S/\FR θ ρ (aJ st.f) ast.f st.n (Hb h0.w ast.ds)
def SE(ρ0:jY)(h0:En)(N:Nat)(Q:Ex->ep->Prop):Ex->gX->Prop:=λex ast=>∃st,Q ex st/\st.n=N/\jw ρ0 h0 st ast
def aF(P:Program)(ro:Option Nat)(c:Code)(st:ep)(Q:Ex->ep->Prop):Prop:=∀ρ0 h0 ast,jw ρ0 h0 st ast->lI P ro c ast (SE ρ0 h0 st.n Q)
def aK(P:Program)(ro:Option Nat)(all l:List Oper)(st:ep)(K:ep->Prop):Prop:=∀ρ0 h0 ast,jw ρ0 h0 st ast->jt P ro all l ast (λast'=>∃st',K st'/\st'.n=st.n/\jw ρ0 h0 st' ast')
section
variable {P:Program} {ro:Option Nat}
def aF.mono{c:Code}{st:ep}{Q Q':Ex->ep->Prop}(h:aF P ro c st Q)(hq:∀e x,Q e x->Q' e x):aF P ro c st Q':=
 λρ0 h0 ast hs=>(h ρ0 h0 ast hs).mono λ_ _ ⟨x,h1,h2⟩=>⟨x,hq _ _ h1,h2⟩
def aF.skip{st:ep}{Q:Ex->ep->Prop}(h:Q .normal st):aF P ro .skip st Q:=λ_ _ _ hs=>.skip ⟨st,h,rfl,hs⟩
def aF.exit{id:Nat}{st:ep}{Q:Ex->ep->Prop}(h:Q (.exit id) st):aF P ro (.exit id) st Q:=λ_ _ _ hs=>.exit ⟨st,h,rfl,hs⟩
def aF.ret{st:ep}{Q:Ex->ep->Prop}(h:Q .ret st):aF P ro .ret st Q:=λ_ _ _ hs=>.ret ⟨st,h,rfl,hs⟩
def dh(P:Program)(ro:Option Nat)(y:Code)(Q:Ex->ep->Prop):Ex->ep->Prop
 | .normal,st=>aF P ro y st Q
 | e,st=>Q e st
def aF.seq{x y:Code}{st:ep}{Q:Ex->ep->Prop}(h:aF P ro x st (dh P ro y Q)):aF P ro (.seq x y) st Q:=by
 intro ρ0 h0 ast hs;refine .seq ((h ρ0 h0 ast hs).mono ?_);rintro e a ⟨st',h1,h2,h3⟩
 cases e with
 | normal=>
  have:=h1 ρ0 h0 a h3;rw[h2] at this;exact this
 | _=>exact⟨st',h1,h2,h3⟩
def aF.cond{c:Operand}{x y:Code}{st:ep}{Q:Ex->ep->Prop}{b:Bool}(hc:eO st.f c=some (.a (.bool b)))(h1:b=true->aF P ro x st Q)(h2:b=false->aF P ro y st Q):aF P ro (.cond c x y) st Q:=by
 intro ρ0 h0 ast hs;obtain⟨a1,a2,θ,ρ,hR,hF⟩:=hs;rw[<-a1] at hF;obtain⟨a,ha,ka⟩:=bT hF hc;rw[VS] at ka;subst ka;refine .cond ha (λh=>h1 h ρ0 h0 ast ⟨a1,a2,θ,ρ,hR,by rw[<-a1];exact hF⟩) (λh=>h2 h ρ0 h0 ast ⟨a1,a2,θ,ρ,hR,by rw[<-a1];exact hF⟩)
variable{Q:Ex->ep->Prop}
def aF.yes{c:Operand}{x y:Code}{st:ep}(hc:eO st.f c=some (.a (.bool true)))(h1:aF P ro x st Q):aF P ro (.cond c x y) st Q:=.cond hc (λ_=>h1) gt
def aF.no{c:Operand}{x y:Code}{st:ep}(hc:eO st.f c=some (.a (.bool false)))(h1:aF P ro y st Q):aF P ro (.cond c x y) st Q:=.cond hc gt (λ_=>h1)
def eV(id:Nat)(Q:Ex->ep->Prop):Ex->ep->Prop
 | .exit i,st=>if i=id then Q .normal st else Q (.exit i) st
 | e,st=>Q e st
def aF.block{id:Nat}{x:Code}{st:ep}{Q:Ex->ep->Prop}(h:aF P ro x st (eV id Q)):aF P ro (.block id x) st Q:=by
 intro ρ0 h0 ast hs;refine .block ((h ρ0 h0 ast hs).mono ?_);rintro e a ⟨st',h1,h2,h3⟩
 cases e with
 | exit i=>
  simp only[eV] at h1;simp only[Mg];by_cases hi:i=id
  ·rw[ut hi] at h1 ⊢;exact⟨st',h1,h2,h3⟩
  ·rw[v6 hi] at h1 ⊢;exact⟨st',h1,h2,h3⟩
 | _=>exact⟨st',h1,h2,h3⟩
def Fg(st st':ep):Prop:=st'.n=st.n/\∀ρ0 h0 ast,jw ρ0 h0 st ast->jw ρ0 h0 st' ast
def Fg.trans{a b c:ep}(h1:Fg a b)(h2:Fg b c):Fg a c:=⟨h2.1.trans h1.1,λ_ _ _ h=>h2.2 _ _ _ (h1.2 _ _ _ h)⟩
def aF.fg{c:Code}{st st':ep}(hf:Fg st st')(h:aF P ro c st' Q):aF P ro c st Q:=by
 intro ρ0 h0 ast hs;have:=h ρ0 h0 ast (hf.2 _ _ _ hs);rw[hf.1] at this;exact this
def cq(I:Nat->ep->Prop)(m:Nat)(Q:Ex->ep->Prop):Ex->ep->Prop
 | .normal,st=>∃k st',k<m/\Fg st st'/\I k st'
 | e,st=>Q e st
def aF.loop{x:Code}{st:ep}{Q:Ex->ep->Prop}(I:Nat->ep->Prop)(m:Nat){st0:ep}(hf:Fg st st0)(h0:I m st0)(hn:∀m st',I m st'->st'.n=st.n)(h:∀m st,I m st->aF P ro x st (cq I m Q)):aF P ro (.loop x) st Q:=by
 intro ρ0 hh ast hs;refine .loop (λm a=>∃st',I m st'/\jw ρ0 hh st' a) m ⟨st0,h0,hf.2 _ _ _ hs⟩ ?_;rintro k a ⟨st1,hI,hst⟩;refine(h k st1 hI ρ0 hh a hst).mono ?_;rintro e a' ⟨st',h1,h2,h3⟩;have hn1:=hn _ _ hI
 cases e with
 | normal=>
  obtain⟨k',st2,hk,hfg,hI2⟩:=h1;exact⟨k',hk,st2,hI2,hfg.2 _ _ _ h3⟩
 | _=>exact⟨st',h1,h2.trans hn1,h3⟩
def bP(Q:Ex->ep->Prop):Ex->ep->Prop
 | .goto _,_=>False
 | e,st=>Q e st
def aF.region{id:Nat}{ops:Array Oper}{st:ep}{Q:Ex->ep->Prop}(h:aK P ro ops.toList ops.toList st (Q .normal)):aF P ro (.region id ops false) st Q:=by
 intro ρ0 h0 ast hs;obtain⟨f,n,hh,ds⟩:=ast;refine .region ?_;have:=h ρ0 h0 _ hs;intro ops i h1 h2 F n σ a w Q' h3 h4 h5;exact this ops i h1 h2 F n σ a w Q' h3 h4 λst' a' w' σ' h6=>h5 st' a' w' σ' (by obtain⟨x,k1,k2,k3⟩:=h6;exact⟨x,k1,k2,k3⟩)
def uy(ops:List Oper)(f:Fm)(n:Nat)(o:Oper):Option Bool:=match o.guard with
 | none=>some true
 | some (j,want)=>match (ops[j]?).bind (·.dst) with
  | some d=>_root_.cond (blt d n) (match aJ f d with
   | .a (.bool b)=>some (b==want)
   | .a (.cA [])=>some false
   | _=>none) none
  | none=>none
variable{f:Fm}{af:Nat->AV}{n:Nat}{wv:Nat->AV}
def dw{θ:Nat->Loc}{ρ:jY}{ops:List Oper}(hF:FR θ ρ (aJ f) af n wv){o:Oper}{b:Bool}(h:uy ops f n o=some b):kJ ops af n o=some b:=by
 unfold uy at h;unfold kJ;split at h
 ·rename_i hg;rw[hg];exact h
 ·rename_i j want hg;rw[hg];simp only;split at h
  ·rename_i d hd;obtain⟨hlt,h2⟩:=aH h;have:=hF.v d;rw[ut (fK hlt)] at this;rw[hd];simp only;rw[hlt,an];split at h2
   ·rename_i hx;rw[hx,VS] at this;rw[this];exact h2
   ·rename_i hx;rw[hx,VS] at this;rw[this];exact h2
   ·cases h2
  ·cases h
def dn(all:List Oper)(n:Nat)(l:List Oper):Bool:=l.all λo=>xW o.dst n&&(match o.guard with
 | none=>true
 | some (j,_)=>match (all[j]?).bind (·.dst) with
  | some d=>blt d n
  | none=>false)
def Ku(want:Bool):SV->Option Bool
 | .a (.bool b)=>some (_root_.cond want b (!b))
 | .a (.cA [])=>some false
 | _=>none
def bX(all:List Oper)(f:Fm)(g:Option (Nat×Bool)):Option Bool:=match g with
 | none=>some true
 | some (j,want)=>(all[j]?).bind λo=>o.dst.bind λd=>Ku want (aJ f d)
def e8{all:List Oper}{o:Oper}{l:List Oper}{b:Bool}(hs:dn all n (o::l)=true)(h:bX all f o.guard=some b):uy all f n o=some b:=by
 unfold dn at hs;rw[cg,ac,ac] at hs;have hs2:=hs.1.2;unfold bX at h;unfold uy
 cases hg:o.guard with
 | none=>rw[hg] at h;exact h
 | some q=>
  obtain⟨j,want⟩:=q;rw[hg] at h hs2;simp only at h hs2 ⊢;obtain⟨oj,hj,h⟩:=ul h;obtain⟨d,hd,h⟩:=ul h;rw[hj,m7,hd] at hs2 ⊢;simp only at hs2 ⊢;rw[hs2,an];unfold Ku at h;split at h
  ·rename_i b' hb;cases want<;>cases b'<;>exact h
  ·exact h
  ·cases h
def fD{all:List Oper}{o:Oper}{l:List Oper}(hs:dn all n (o::l)=true):xW o.dst n=true/\dn all n l=true:=by
 unfold dn at hs ⊢;rw[cg,ac,ac] at hs;exact⟨hs.1.1,hs.2⟩
def oP(P:Program)(all:List Oper):List Oper->Fm->List SO->List Oper×Fm×List SO
 | [],f,S=>([],f,S)
 | o::l,f,S=>match bX all f o.guard with
  | some true=>match dx P f S o.op with
   | some q=>oP P all l (po f q.2.2 o.dst q.1) q.2.1
   | none=>(o::l,f,S)
  | some false=>match o.dst with
   | some d=>oP P all l ((d,.a lH)::f) S
   | none=>(o::l,f,S)
  | none=>(o::l,f,S)
def aK.nil{all:List Oper}{st:ep}{K:ep->Prop}(h:K st):aK P ro all [] st K:=λ_ _ _ hs=>.nil ⟨st,h,rfl,hs⟩
variable{S:List SO}
def BR{op:Op}{q:SV×List SO×Option Nat}(h:dx P f S op=some q):tz op=true:=by
 cases op<;>first | rfl | (simp[dx] at h;done)
def aK.run{all:List Oper}{ds:List js}{n:Nat}{K:ep->Prop}:∀{l l':List Oper} {f f':Fm} {S S':List SO},dn all n l=true->oP P all l f S=(l',f',S')->aK P ro all l' ⟨f',n,S',ds⟩ K->aK P ro all l ⟨f,n,S,ds⟩ K
 | [],l',f,f',S,S',_,h,hk=>by
  simp only[oP,m8] at h;obtain⟨rfl,rfl,rfl⟩:=h;exact hk
 | o::l,l',f,f',S,S',hst,h,hk=>by
  have stop:(o::l,f,S)=(l',f',S')->aK P ro all (o::l) ⟨f,n,S,ds⟩ K:=by
   intro e;simp only[m8] at e;obtain⟨rfl,rfl,rfl⟩:=e;exact hk
  obtain⟨hd,hst2⟩:=fD hst;unfold oP at h;split at h
  ·rename_i hw;have hw:=e8 hst hw;split at h
   ·rename_i q hop;obtain⟨v,S1,kill⟩:=q;rintro ρ0 h0 ⟨af,n',hh,ds'⟩ ⟨rfl,rfl,θ,ρ,hR,hF⟩;obtain⟨rv,h',θ',e1,e2,e3,e4⟩:=Ou hR hF hop;refine .cons (dw hF hw) (.run (BR hop) hd e1 ?_);intro x hx;rw[t6 hx];refine aK.run hst2 h hk ρ0 h0 _ ⟨rfl,rfl,θ',ρ,e2,?_⟩
    cases hdd:o.dst with
    | none=>exact hF.ly e4
    | some d=>rw[hdd] at hd;cases rv<;>exact hF.kill e4 (fK hd) e3
   ·exact stop h
  ·rename_i hw;have hw:=e8 hst hw;split at h
   ·rename_i d hdst;rw[hdst] at hd;rintro ρ0 h0 ⟨af,n',hh,ds'⟩ ⟨rfl,rfl,θ,ρ,hR,hF⟩;refine .s hdst (dw hF hw) hd ?_;exact aK.run hst2 h hk ρ0 h0 _ ⟨rfl,rfl,θ,ρ,hR,hF.put (fK hd) (by rw[VS])⟩
   ·exact stop h
  ·exact stop h
end
mutual
inductive Wk (S:List SO):SV->SV->Prop
 | any (v:SV):Wk S v .any
 | a (v:AV):Wk S (.a v) (.a v)
 | sl (n e:Nat) (cs:List SV):Wk S (.sl n e cs) (.sl n e cs)
 | im (ks:List AV) (vs:List SV):Wk S (.im ks vs) (.im ks vs)
 | ip (cs:List SV):Wk S (.ip cs) (.ip cs)
 | nil (e:Nat):Wk S (.a (.slice none 0 0 (some 0))) (.sl 0 e [])
 | ptr {o off:Nat} {cs ds:List SV}:S[o]?=some (.cells cs)->cC S (cs.drop off) ds->off<=cs.length->Wk S (.ptr o off) (.ip ds)
 | buf {o n e:Nat} {c:Option Nat} {cs ds:List SV}:S[o]?=some (.cells cs)->cC S (cs.take (n*e)) ds->n*e<=cs.length->Wk S (.buf o n e c) (.sl n e ds)
 | sub {o off n e:Nat} {c:Option Nat} {cs ds:List SV}:S[o]?=some (.cells cs)->cC S ((cs.drop off).take (n*e)) ds->off+n*e<=cs.length->Wk S (.sub o off n e c) (.sl n e ds)
 | e0 (e:Nat):Wk S (.e0 e) (.e0 e)
 | Ss (e:Nat):Wk S (.e0 e) (.sl 0 e [])
 | map {o:Nat} {ks:List AV} {vs ws:List SV} {b:Option (List Nat×Nat)}:S[o]?=some (.map ks vs b)->cC S vs ws->Wk S (.map o) (.im ks ws)
 | ag {cs ds:List SV}:cC S cs ds->Wk S (.ag cs) (.ag ds)
 | cA {cs ds:List SV}:cC S cs ds->Wk S (.cA cs) (.cA ds)
 | fn {g:FuncId} {a b c d:List SV}:cC S a c->cC S b d->Wk S (.fn g a b) (.fn g c d)
 | iface {t:TypeId} {v w:SV}:Wk S v w->Wk S (.iface t v) (.iface t w)
inductive cC (S:List SO):List SV->List SV->Prop
 | nil:cC S [] []
 | cons {v w:SV} {vs ws:List SV}:Wk S v w->cC S vs ws->cC S (v::vs) (w::ws)
end
def oN(θ:Nat->Loc)(ρ:jY)(h:H)(S:List SO):jY:=λid=>match ρ id with
 | some ob=>some ob
 | none=>@ite _ (∃o so,S[o]?=some so/\so≠.gone/\(θ o).id=id) (Classical.propDecidable _) (h.aV.get id) none
section
variable {θ:Nat->Loc} {ρ ρ0:jY} {P:Program} {h0:En} {h:H} {S:List SO}
variable{id:Nat}
def qD{ob:AO}(hi:ρ id=some ob):oN θ ρ h S id=some ob:=by unfold oN;rw[hi]
variable{o:Nat}{so:SO}
def tL(hR:RS θ ρ0 ρ h0 h S)(hS:S[o]?=some so)(hg:so≠.gone):oN θ ρ h S (θ o).id=h.aV.get (θ o).id:=by
 unfold oN
 cases hr:ρ (θ o).id with
 | some ob=>rw[(hR.row _ _ hr).2.1]
 | none=>simp only;rw[ut ⟨o,so,hS,hg,rfl⟩]
mutual
def Wk.ok(hR:RS θ ρ0 ρ h0 h S):∀{v w:SV} {x:AV},Wk S v w->VS θ ρ v x->GS (oN θ ρ h S) w x
 | _,_,_,.any v,_=>by rw[GS];trivial
 | _,_,_,.a v,hv=>by rw[VS] at hv;rw[GS];exact hv
 | _,_,_,.sl n e cs,hv=>by rw[VS] at hv;exact hv.mono λ_ _ h=>qD h
 | _,_,_,.im ks vs,hv=>by rw[VS] at hv;exact hv.mono λ_ _ h=>qD h
 | _,_,_,.ip cs,hv=>by rw[VS] at hv;exact hv.mono λ_ _ h=>qD h
 | _,_,_,.nil e,hv=>by
  rw[VS] at hv;subst hv;rw[GS];exact .inl ⟨rfl,rfl,none,0,some 0,rfl,λ_=>rfl,λh=>un rfl h⟩
 | _,_,_,@Wk.ptr _ o off cs ds hS hw hle,hv=>by
  rw[VS] at hv;subst hv;obtain⟨_,aS,q1,q2,_⟩:=hR.obj o _ hS gt;rw[GS];refine⟨_,off,aS,aS.length-off,rfl,?_,?_,?_⟩
  ·unfold vl;rw[tL hR hS gt,q1]
  ·rw[q2.length];omega
  ·have:=cC.ok hR hw (q2.drop off);rw[cd (by rw[be];exact bv _)];exact this
 | _,_,_,@Wk.buf _ o n e c cs ds hS hw hle,hv=>by
  rw[VS] at hv;subst hv;obtain⟨_,aS,q1,q2,_⟩:=hR.obj o _ hS gt;rw[GS];refine .inr ⟨_,0,c,aS,rfl,?_,by rw[q2.length];omega,?_⟩
  ·unfold vl;rw[tL hR hS gt,q1]
  ·rw[b0];exact cC.ok hR hw (q2.take _)
 | _,_,_,@Wk.sub _ o off n e c cs ds hS hw hle,hv=>by
  rw[VS] at hv;subst hv;obtain⟨_,aS,q1,q2,_⟩:=hR.obj o _ hS gt;rw[GS];refine .inr ⟨_,off,c,aS,rfl,?_,by rw[q2.length];omega,?_⟩
  ·unfold vl;rw[tL hR hS gt,q1]
  ·exact cC.ok hR hw ((q2.drop off).take _)
 | _,_,_,.e0 e,hv=>by rw[VS] at hv;rw[GS];exact hv
 | _,_,_,.Ss e,hv=>by
  rw[VS] at hv;obtain⟨o,e',rfl,ho⟩:=hv;rw[GS];exact .inl ⟨rfl,rfl,o,e',some 0,rfl,λ_=>rfl,ho⟩
 | _,_,_,@Wk.map _ o ks vs ws b hS hw,hv=>by
  rw[VS] at hv;subst hv;obtain⟨_,l,c,q1,q2,q3⟩:=hR.obj o _ hS gt;rw[GS];exact⟨_,l,c,rfl,by rw[tL hR hS gt,q1],⟨q2.1,q2.2.1,λp hp=>by cases hp⟩,cC.ok hR hw q3⟩
 | _,_,_,.ag hw,hv=>by rw[VS] at hv;obtain⟨aS,h1,h2⟩:=hv;rw[GS];exact⟨aS,h1,cC.ok hR hw h2⟩
 | _,_,_,.cA hw,hv=>by rw[VS] at hv;obtain⟨aS,h1,h2⟩:=hv;rw[GS];exact⟨aS,h1,cC.ok hR hw h2⟩
 | _,_,_,.fn hw1 hw2,hv=>by rw[VS] at hv;obtain⟨xs,ys,h1,h2,h3⟩:=hv;rw[GS];exact⟨xs,ys,h1,cC.ok hR hw1 h2,cC.ok hR hw2 h3⟩
 | _,_,_,.iface hw,hv=>by rw[VS] at hv;obtain⟨y,h1,h2⟩:=hv;rw[GS];exact⟨y,h1,Wk.ok hR hw h2⟩
def cC.ok(hR:RS θ ρ0 ρ h0 h S):∀{vs ws:List SV} {xs:List AV},cC S vs ws->db θ ρ vs xs->jO (oN θ ρ h S) ws xs
 | _,_,_,.nil,hv=>by rw[bl] at hv;rw[eU];exact hv
 | _,_,_,.cons h1 h2,hv=>by
  rw[aN] at hv;obtain⟨a,r,rfl,k1,k2⟩:=hv;rw[dQ];exact⟨a,r,rfl,Wk.ok hR h1 k1,cC.ok hR h2 k2⟩
end
def RS.C1(hR:RS θ ρ0 ρ h0 h S):RS θ ρ0 ρ h0 h []:=⟨hR.ok,hR.nx,hR.ob,hR.fm,hR.lw,hR.ln,λo so h=>by simp at h,λo o' so so' _ h=>by simp at h,λid ob hi=>⟨(hR.row id ob hi).1,(hR.row id ob hi).2.1,λo so h=>by simp at h⟩,hR.ml⟩
def yQ:oN θ ρ h []=ρ:=by
 funext id;unfold oN
 cases hr:ρ id with
 | some ob=>rfl
 | none=>simp only;rw[v6];rintro⟨o,so,h,_⟩;simp at h
def Mi(ρ:jY)(h:H):Prop:=∀id ob,ρ id=some ob->id<h.next/\h.aV.get id=some ob
def Sz(h:H)(ρ ρ':jY)(h':H):Prop:=∀id ob,ρ' id=some ob->ρ id=some ob\/(h.next<=id/\id<h'.next/\h'.aV.get id=some ob)
def pI(hR:RS θ ρ0 ρ h0 h S):Mi (oN θ ρ h S) h:=by
 intro id ob hi;unfold oN at hi
 cases hr:ρ id with
 | some ob'=>rw[hr] at hi;cases hi;exact⟨(hR.row id _ hr).1,(hR.row id _ hr).2.1⟩
 | none=>
  rw[hr] at hi;simp only at hi;split at hi
  ·rename_i hex;obtain⟨o,so,h1,h2,rfl⟩:=hex;obtain⟨⟨k1,k2,k3,_⟩,_⟩:=hR.obj o so h1 h2;exact⟨by rcases k1 with e | e<;>omega,hi⟩
  ·cases hi
def PC(P:Program)(g:FuncId)(args:List SV)(Q:SV->Prop):Prop:=∀ρ h avs,Mi ρ h->jO ρ args avs->
 dZ P (.func g) avs h (λv h'=>∃r ρ',Q r/\Over h.next h h'/\Sz h ρ ρ' h'/\GS ρ' r v)
mutual
def vB:SV->Bool
 | .any=>true
 | .a _=>true
 | .ag cs=>HH cs
 | .cA cs=>HH cs
 | _=>false
def HH:List SV->Bool
 | []=>true
 | d::ds=>vB d&&HH ds
end
mutual
def GS.flat{ρ':jY}:∀{r:SV} {x:AV},vB r=true->GS ρ' r x->VS θ ρ r x
 | .any,_,_,_=>by rw[VS];trivial
 | .a v,x,_,hg=>by rw[GS] at hg;rw[VS];exact hg
 | .ag cs,x,hf,hg=>by rw[vB] at hf;rw[GS] at hg;obtain⟨aS,h1,h2⟩:=hg;rw[VS];exact⟨aS,h1,jO.flat hf h2⟩
 | .cA cs,x,hf,hg=>by rw[vB] at hf;rw[GS] at hg;obtain⟨aS,h1,h2⟩:=hg;rw[VS];exact⟨aS,h1,jO.flat hf h2⟩
 | .sl _ _ _,_,hf,_=>by simp[vB] at hf
 | .im _ _,_,hf,_=>by simp[vB] at hf
 | .ip _,_,hf,_=>by simp[vB] at hf
 | .ptr _ _,_,hf,_=>by simp[vB] at hf
 | .map _,_,hf,_=>by simp[vB] at hf
 | .buf _ _ _ _,_,hf,_=>by simp[vB] at hf
 | .sub _ _ _ _ _,_,hf,_=>by simp[vB] at hf
 | .e0 _,_,hf,_=>by simp[vB] at hf
 | .fn _ _ _,_,hf,_=>by simp[vB] at hf
 | .iface _ _,_,hf,_=>by simp[vB] at hf
def jO.flat{ρ':jY}:∀{rs:List SV} {xs:List AV},HH rs=true->jO ρ' rs xs->db θ ρ rs xs
 | [],xs,_,hg=>by rw[eU] at hg;rw[bl];exact hg
 | d::ds,xs,hf,hg=>by
  rw[HH,ac] at hf;rw[dQ] at hg;obtain⟨a,r,rfl,h1,h2⟩:=hg;rw[aN];exact⟨a,r,rfl,GS.flat hf.1 h1,jO.flat hf.2 h2⟩
end
def iD(P:Program)(f:Fm)(c:Call):Option (FuncId×List SV):=match c.callee with
 | .value x=>match eO f x with
  | some (.fn g first cap)=>(pL f c.args.toList).map λxs=>(g,(first++xs)++cap)
  | _=>none
 | .invoke r name=>match eO f r with
  | some (.iface t v)=>(ja P t name).bind λg=>(pL f c.args.toList).map λxs=>(g,v::xs)
  | _=>none
 | .builtin _=>none
variable{f:Fm}{af:Nat->AV}{n:Nat}{wv:Nat->AV}{vs:List SV}
def xN(hF:FR θ ρ (aJ f) af n wv){c:Call}{g:FuncId}(hc:iD P f c=some (g,vs)):∃xs cap,pd P (ei af n) c=some (.func g,xs,cap)/\db θ ρ vs (xs++cap):=by
 unfold iD at hc;unfold pd;split at hc
 ·rename_i x hx;rw[hx];simp only;split at hc
  ·rename_i g' first cap hv
   obtain⟨xs,hxs,e⟩:=aw hc;cases e;obtain⟨a,ha,ka⟩:=bT hF hv;rw[VS] at ka;obtain⟨fs,cs,rfl,k1,k2⟩:=ka;obtain⟨aS,hs,ks⟩:=l7 hF hxs;rw[ha];simp only;rw[hs];exact⟨fs++aS,cs,rfl,(k1.app ks).app k2⟩
  ·cases hc
 ·rename_i r name hx;rw[hx];simp only;split at hc
  ·rename_i t v hv;obtain⟨g',hg,hc⟩:=ul hc;obtain⟨xs,hxs,e⟩:=aw hc;cases e;obtain⟨a,ha,ka⟩:=bT hF hv;rw[VS] at ka;obtain⟨y,rfl,k1⟩:=ka;obtain⟨aS,hs,ks⟩:=l7 hF hxs;rw[ha];simp only;rw[hg,m7,hs];refine⟨y::aS,[],rfl,?_⟩;rw[List.append_nil,aN];exact⟨y,aS,rfl,k1,ks⟩
  ·cases hc
 ·cases hc
def nd.mono{ρ':jY}{h':H}{L:Loc}{so:SO}(hx:nd θ ρ h L so)(hm:∀id ob,ρ id=some ob->ρ' id=some ob)(ho:h'.aV.get L.id=h.aV.get L.id)(hf:h'.dE.get L.cf=h.dE.get L.cf):nd θ ρ' h' L so:=by
 cases so with
 | cells cs=>obtain⟨aS,h1,h2,h3⟩:=hx;exact⟨aS,by rw[ho];exact h1,h2.mono hm,by rw[hf];exact h3⟩
 | map ks vs b=>obtain⟨l,c,h1,h2,h3⟩:=hx;exact⟨l,c,by rw[ho];exact h1,h2,h3.mono hm⟩
 | iter m bs c pos=>obtain⟨kI,h1,h2⟩:=hx;exact⟨kI,h1.mono hm,by rw[ho];exact h2⟩
 | oB ks vs bs c pos=>obtain⟨kI,l,h1,h2,h3,h4⟩:=hx;exact⟨kI,l,hm _ _ h1,h2,h3.mono hm,by rw[ho];exact h4⟩
 | gone=>trivial
 | loop c ls p f=>
  obtain⟨h1,h2,h3⟩:=hx;exact⟨h1,by rw[ho];exact h2,λi hi=>(h3 i hi).mono hm⟩
 | mf N=>exact⟨hx.1,by rw[ho];exact hx.2⟩
def F6(h:H)(ρ ρ':jY):jY:=λid=>if id<h.next then ρ id else ρ' id
def RS.call{ρ':jY}{h':H}(hR:RS θ ρ0 ρ h0 h S)(ho:Over h.next h h')(hn:Sz h ρ ρ' h'):RS θ ρ0 (F6 h ρ ρ') h0 h' S/\(∀id ob,ρ id=some ob->F6 h ρ ρ' id=some ob)/\∀id ob,ρ' id=some ob->F6 h ρ ρ' id=some ob:=by
 have hold:∀id ob,ρ id=some ob->F6 h ρ ρ' id=some ob:=by
  intro id ob hi;unfold F6;rw[ut (hR.row id ob hi).1];exact hi
 have hlw:h'.low=h.low:=ho.low hR.ln;have hpr:∀j,h0.pr j->j<h.next:=λj hj=>aj (hR.ok.pr j hj) hR.nx;have hpf:∀j,h0.pf j->j<h.next:=λj hj=>aj (hR.ok.pf j hj) hR.nx;refine⟨⟨hR.ok,ba hR.nx ho.next,λj hj=>(ho.aV j (hpr j hj)).trans (hR.ob j hj),λj hj=>(ho.dE j (hpf j hj)).trans (hR.fm j hj),by rw[hlw];exact hR.lw,by rw[hlw];exact ba hR.ln ho.next,?_,hR.sep,?_,?_⟩,hold,?_⟩
 ·intro o so h1 h2;obtain⟨k,k2⟩:=hR.obj o so h1 h2;refine⟨k.mono ho.next,?_⟩
  have hid:(θ o).id<h.next:=by rcases k.e with e | e<;>rw[e];exact k.x.2;exact k.y.2
  exact k2.mono hold (ho.aV _ hid) (ho.dE _ k.f.2)
 ·intro id ob hi;unfold F6 at hi;split at hi
  ·rename_i hlt;obtain⟨r1,r2,r3⟩:=hR.row id ob hi;exact⟨aj r1 ho.next,by rw[ho.aV id r1];exact r2,r3⟩
  ·rename_i hlt
   rcases hn id ob hi with e | ⟨e1,e2,e3⟩
   ·exact un (hR.row id ob e).1 hlt
   ·refine⟨e2,e3,λo so h1 h2=>?_⟩;obtain⟨k,_⟩:=hR.obj o so h1 h2;have:=k.x.2;have:=k.y.2;omega
 ·intro id ob hi;unfold F6 at hi;split at hi
  ·exact hR.ml id ob hi
  ·exact .inr (λhj=>by have:=hpr id hj;omega)
 ·intro id ob hi;unfold F6;split
  ·rename_i hlt
   rcases hn id ob hi with e | ⟨e1,_⟩
   ·exact e
   ·omega
  ·exact hi
def FR.mono{ρ':jY}{f:Nat->SV}{af:Nat->AV}{n:Nat}{wv:Nat->AV}(hF:FR θ ρ f af n wv)(hm:∀id ob,ρ id=some ob->ρ' id=some ob):FR θ ρ' f af n wv:=⟨λi=>(hF.v i).mono hm,hF.u⟩
def aK.call{ro:Option Nat}{all:List Oper}{o:Oper}{l:List Oper}{f:Fm}{n:Nat}{ds:List js}{K:ep->Prop}{d:Nat}{c:Call}{g:FuncId}{vs ws:List SV}{Q:SV->Prop}(hop:o.op=.call c)(hdst:o.dst=some d)(hw:uy all f n o=some true)(hdy:fE (.call c)=true)(hd:blt d n=true)
 (hc:iD P f c=some (g,vs)) (hq:PC P g ws Q) (hwk:cC S vs ws) (hfl:(∀r,Q r->vB r=true)\/cC [] vs ws) (hk:∀r,Q r->aK P ro all l ⟨(d,r)::f,n,S,ds⟩ K):aK P ro all (o::l) ⟨f,n,S,ds⟩ K:=by
 rintro ρ0 h0 ⟨af,n',h,ds'⟩ ⟨rfl,rfl,θ,ρ,hR,hF⟩;obtain⟨xs,cap,h1,h2⟩:=xN hF hc
 rcases hfl with hfl | hfl
 ·refine .c hop hdst (dw hF hw) hdy hd h1 rfl (hq _ _ _ (pI hR) (hwk.ok hR h2)) ?_;rintro v h' ⟨r,ρ',k1,k2,k3,k4⟩;obtain⟨j1,j2,_⟩:=hR.call (ρ':=λ_=>none) k2 (λid ob hi=>by cases hi);exact hk r k1 ρ0 h0 _ ⟨rfl,rfl,θ,_,j1,(hF.mono j2).put (fK hd) (k4.flat (hfl r k1))⟩
 ·have:=hfl.ok hR.C1 h2;rw[yQ] at this;refine .c hop hdst (dw hF hw) hdy hd h1 rfl (hq _ _ _ (λid ob hi=>⟨(hR.row id ob hi).1,(hR.row id ob hi).2.1⟩) this) ?_;rintro v h' ⟨r,ρ',k1,k2,k3,k4⟩;obtain⟨j1,j2,j3⟩:=hR.call k2 k3;exact hk r k1 ρ0 h0 _ ⟨rfl,rfl,θ,_,j1,(hF.mono j2).put (fK hd) ((k4.mono j3).vs)⟩
end
def kL:Nat->List SV->Fm
 | _,[]=>[]
 | i,v::vs=>(i,v)::kL (i+1) vs
def sI:∀(vs:List SV) (i j:Nat),aJ (kL i vs) j=if i<=j then (match vs[j-i]? with | some v=>v | none=>.any) else .any
 | [],i,j=>by simp[kL,aJ]
 | v::vs,i,j=>by
  show(if i=j then v else aJ (kL (i+1) vs) j)=_;rw[sI vs (i+1) j];by_cases h:i=j
  ·subst h;simp
  ·rw[v6 h];by_cases h2:i<=j
   ·rw[ut i4,ut h2];obtain⟨k,hk⟩:∃k,j-i=k+1:=⟨j-i-1,by omega⟩;rw[hk,ap,show j-(i+1)=k by omega]
   ·rw[v6 i4,v6 h2]
def oM(P:Program)(f:Fm)(S:List SO):List ResultVar->Option (List SV)
 | []=>some []
 | .tmp i::l=>(eO f (.tmp i)).bind λv=>(oM P f S l).map λb=>v::b
 | .cell a t::l=>(eO f (.tmp a)).bind λx=>(yC P S t x).bind λv=>(oM P f S l).map λb=>v::b
def ez:List SV->SV
 | [v]=>v
 | vs=>.cA vs
def A8(P:Program)(fn:Func)(Q:SV->Prop):Ex->ep->Prop:=λe st=>j9 e=true/\st.ds=[]/\∃vs r,oM P st.f st.S fn.results.toList=some vs/\Wk st.S (ez vs) r/\Q r
section
variable {P:Program}
def tI{θ:Nat->Loc}{ρ ρ0:jY}{h0:En}{h:H}{S:List SO}(hR:RS θ ρ0 ρ h0 h S){f:Fm}{af:Nat->AV}{n:Nat}{wv:Nat->AV}(hF:FR θ ρ (aJ f) af n wv):∀{l:List ResultVar} {vs:List SV},oM P f S l=some vs->∃aS,(l.mapM λ
 | ResultVar.tmp i=>ev (ei af n) (.tmp i)
 | ResultVar.cell a tt=>match ev (ei af n) (.tmp a) with
  | some (.ptr (some (id,off)))=>h.load P tt id off
  | _=>none)=some aS/\db θ ρ vs aS
 | [],vs,hv=>by
  simp only[oM,qr] at hv;subst hv;exact⟨[],rfl,by rw[bl]⟩
 | .tmp i::l,vs,hv=>by
  rw[oM] at hv;obtain⟨v0,hv0,hv⟩:=ul hv;obtain⟨b,hb,rfl⟩:=aw hv;obtain⟨aS,h1,h2⟩:=tI hR hF hb;obtain⟨a,ha,ka⟩:=bT hF (x:=.tmp i) hv0;refine⟨a::aS,?_,by rw[aN];exact⟨a,aS,rfl,ka,h2⟩⟩;rw[c5];simp only[ha,h1];rfl
 | .cell a t::l,vs,hv=>by
  rw[oM] at hv;obtain⟨v0,hv0,hv⟩:=ul hv;obtain⟨v,hv1,hv⟩:=ul hv;obtain⟨b,hb,rfl⟩:=aw hv;obtain⟨aS,h1,h2⟩:=tI hR hF hb;obtain⟨p,hp,kp⟩:=bT hF (x:=.tmp a) hv0;obtain⟨y,hy,ky⟩:=Fs hR kp hv1;refine⟨y::aS,?_,by rw[aN];exact⟨y,aS,rfl,ky,h2⟩⟩;rw[c5];simp only[hp,h1];unfold CR at hy;split at hy
  ·rename_i he;cases he;simp only[hy];rfl
  ·cases hy
def OO:List AV->AV
 | [v]=>v
 | vs=>.cA vs
variable{vs:List SV}{aS:List AV}
def J5{θ:Nat->Loc}{ρ:jY}(h:db θ ρ vs aS):VS θ ρ (ez vs) (OO aS):=by
 match vs,h with
 | [],h=>rw[bl] at h;subst h;simp only[ez];rw[VS];exact⟨[],rfl,by rw[bl]⟩
 | [v],h=>
  rw[aN] at h;obtain⟨a,r,rfl,h1,h2⟩:=h;rw[bl] at h2;subst h2;exact h1
 | v::w::vs,h=>
  have h':=h;rw[aN] at h;obtain⟨a,r,rfl,h1,h2⟩:=h;rw[aN] at h2;obtain⟨b,r2,rfl,h3,h4⟩:=h2;simp only[ez];rw[VS];exact⟨_,rfl,h'⟩
end
section
variable {θ:Nat->Loc} {ρ ρ0:jY} {P:Program} {h0:En} {h:H} {S S':List SO}
def uB(f:Fm):Fm->Prop
 | []=>True
 | (i,v)::l=>aJ f i=v/\uB f l
def Cb(S:List SO):List SO->Nat->Prop
 | [],_=>True
 | s::l,k=>(s=.gone\/S[k]?=some s)/\Cb S l (k+1)
def Cb.get:∀{l:List SO} {k:Nat},Cb S l k->∀{o:Nat} {so:SO},l[o]?=some so->so≠.gone->S[k+o]?=some so
 | [],_,_,o,so,h,_=>by simp at h
 | s::l,k,hs,o,so,h,hg=>by
  obtain⟨h1,h2⟩:=hs
  cases o with
  | zero=>
   simp only[ax,qr] at h;subst h;exact h1.resolve_left hg
  | succ o=>
   simp only[ap] at h;have:=Cb.get h2 h hg;rw[show k+(o+1)=k+1+o by omega];exact this
def RS.sub(hR:RS θ ρ0 ρ h0 h S)(hs:∀(o:Nat) (so:SO),S'[o]?=some so->so≠.gone->S[o]?=some so):RS θ ρ0 ρ h0 h S':=
 ⟨hR.ok,hR.nx,hR.ob,hR.fm,hR.lw,hR.ln,λo so h1 h2=>hR.obj o so (hs o so h1 h2) h2,λo o' so so' h h1 h2 h3 h4=>hR.sep o o' so so' h (hs o so h1 h2) h2 (hs o' so' h3 h4) h4,
  λid ob hi=>⟨(hR.row id ob hi).1,(hR.row id ob hi).2.1,λo so h1 h2=>(hR.row id ob hi).2.2 o so (hs o so h1 h2) h2⟩,hR.ml⟩
def uB.get{f:Fm}:∀{f':Fm},uB f f'->∀i,aJ f' i=aJ f i\/aJ f' i=.any
 | [],_,i=>.inr rfl
 | (d,v)::l,h,i=>by
  obtain⟨h1,h2⟩:=h;show(if d=i then v else aJ l i)=_\/(if d=i then v else aJ l i)=_;by_cases e:d=i
  ·subst e;rw[ut rfl];exact .inl h1.symm
  ·rw[v6 e];exact uB.get h2 i
variable{f:Fm}{n:Nat}{ds:List js}
def Fg.less{f':Fm}(hf:uB f f')(hs:Cb S S' 0):Fg ⟨f,n,S,ds⟩ ⟨f',n,S',ds⟩:=by
 refine⟨rfl,?_⟩;rintro ρ0 h0 ⟨af,n',h,ds'⟩ ⟨rfl,rfl,θ,ρ,hR,hF⟩;refine⟨rfl,rfl,θ,ρ,hR.sub λo so h1 h2=>by have:=hs.get h1 h2;rw[bb] at this;exact this,λi=>?_,hF.u⟩
 rcases hf.get i with e | e
 ·rw[e];exact hF.v i
 ·rw[e,VS];trivial
def jm(o:Nat)(so:SO):List SO:=c6 o .gone++[so]
variable{o:Nat}{so:SO}
def rA{p:Nat}{s:SO}(h:(jm o so)[p]?=some s)(hg:s≠.gone):p=o/\s=so:=by
 unfold jm at h;rw[ch] at h;split at h
 ·rename_i hl;rw[a7] at hl;rw[List.getElem?_replicate,ut hl] at h;cases h;exact un rfl hg
 ·rename_i hl;rw[a7] at hl h
  have:p-o=0:=by
   apply Decidable.byContradiction;intro hn;rw[a6 (by simp;omega)] at h;cases h
  rw[this] at h;simp only[ax,qr] at h;exact⟨by omega,h.symm⟩
def Gd(o:Nat)(so:SO):(jm o so)[o]?=some so:=by
 unfold jm;rw[a9 (by rw[a7];exact bv _),a7,dv];rfl
def xw(S:List SO)(f:Fm):Fm->Prop
 | []=>True
 | (i,v)::l=>(aJ f i=v\/Wk S (aJ f i) v)/\xw S f l
def xw.get{f:Fm}:∀{f':Fm},xw S f f'->∀i,aJ f' i=aJ f i\/Wk S (aJ f i) (aJ f' i)
 | [],_,i=>.inr (.any _)
 | (d,v)::l,h,i=>by
  obtain⟨h1,h2⟩:=h;show(if d=i then v else aJ l i)=_\/Wk S _ (if d=i then v else aJ l i);by_cases e:d=i
  ·subst e;rw[ut rfl]
   rcases h1 with h1 | h1
   ·exact .inl h1.symm
   ·exact .inr h1
  ·rw[v6 e];exact xw.get h2 i
def Fg.xd{f':Fm}(o:Nat)(hS:S[o]?=some so)(hg:so≠.gone)(hf:∀i,aJ f' i=aJ f i\/Wk (jm o so) (aJ f i) (aJ f' i)):Fg ⟨f,n,S,ds⟩ ⟨f',n,S.set o .gone,ds⟩:=by
 refine⟨rfl,?_⟩;rintro ρ0 h0 ⟨af,n',h,ds'⟩ ⟨rfl,rfl,θ,ρ,hR,hF⟩
 have hsub:∀(p:Nat) (s:SO),(jm o so)[p]?=some s->s≠.gone->S[p]?=some s:=by
  intro p s h1 h2;obtain⟨rfl,rfl⟩:=rA h1 h2;exact hS
 have hR1:=hR.sub hsub
 have hset:∀(p:Nat) (s:SO),(S.set o .gone)[p]?=some s->s≠.gone->S[p]?=some s/\p≠o:=by
  intro p s h1 h2;by_cases hp:p=o
  ·subst hp;rw[ay (br hS)] at h1;cases h1;exact un rfl h2
  ·rw[a0 (λe=>hp e.symm)] at h1;exact⟨h1,hp⟩
 have hR2:=hR.sub (S':=S.set o .gone) λp s h1 h2=>(hset p s h1 h2).1;have hm:∀id ob,ρ id=some ob->oN θ ρ h (jm o so) id=some ob:=λid ob hi=>qD hi
 have key:∀id ob,oN θ ρ h (jm o so) id=some ob->ρ id=some ob\/id=(θ o).id:=by
  intro id ob hi;unfold oN at hi
  cases hr:ρ id with
  | some ob'=>rw[hr] at hi;exact .inl hi
  | none=>
   rw[hr] at hi;simp only at hi;split at hi
   ·rename_i hex;obtain⟨p,s,q1,q2,rfl⟩:=hex;obtain⟨rfl,_⟩:=rA q1 q2;exact .inr rfl
   ·cases hi
 refine⟨rfl,rfl,θ,oN θ ρ h (jm o so),⟨hR2.ok,hR2.nx,hR2.ob,hR2.fm,hR2.lw,hR2.ln,?_,hR2.sep,?_,?_⟩,λi=>?_,hF.u⟩
 ·intro p s h1 h2;obtain⟨k,k2⟩:=hR2.obj p s h1 h2;exact⟨k,k2.mono hm rfl rfl⟩
 ·intro id ob hi;obtain⟨r1,r2⟩:=pI hR1 id ob hi;refine⟨r1,r2,λp s h1 h2=>?_⟩
  rcases key id ob hi with e | e
  ·exact(hR2.row id ob e).2.2 p s h1 h2
  ·subst e;obtain⟨g1,g2⟩:=hset p s h1 h2;have sp:=hR.sep p o s so g2 g1 h2 hS hg;obtain⟨k,_⟩:=hR.obj o so hS hg
   rcases k.e with e | e<;>rw[e]
   ·exact⟨sp.xx.symm,sp.yx.symm⟩
   ·exact⟨sp.xy.symm,sp.yy.symm⟩
 ·intro id ob hi
  rcases key id ob hi with e | e
  ·exact hR.ml id ob e
  ·subst e;obtain⟨k,_⟩:=hR.obj o so hS hg;exact .inr (by rcases k.e with e | e<;>rw[e];exact k.x.1;exact k.y.1)
 ·rcases hf i with e | e
  ·rw[e];exact(hF.v i).mono hm
  ·exact(e.ok hR1 (hF.v i)).vs
def Fg.freeze{f':Fm}(o:Nat)(hS:S[o]?=some so)(hg:so≠.gone)(hf:xw (jm o so) f f'):Fg ⟨f,n,S,ds⟩ ⟨f',n,S.set o .gone,ds⟩:=.xd o hS hg hf.get
mutual
def mh:SV->Bool
 | .a _=>true
 | .sl _ _ _=>true
 | .im _ _=>true
 | .ip _=>true
 | .any=>true
 | .e0 _=>true
 | .ag cs=>bV cs
 | .cA cs=>bV cs
 | .fn _ a b=>bV a&&bV b
 | .iface _ v=>mh v
 | _=>false
def bV:List SV->Bool
 | []=>true
 | d::ds=>mh d&&bV ds
end
mutual
def Wk.refl:∀{v:SV},mh v=true->Wk S v v
 | .a v,_=>.a v
 | .sl n e cs,_=>.sl n e cs
 | .im ks vs,_=>.im ks vs
 | .ip cs,_=>.ip cs
 | .any,_=>.any _
 | .e0 e,_=>.e0 e
 | .sub _ _ _ _ _,h=>by simp[mh] at h
 | .ag cs,h=>.ag (cC.refl (by rw[mh] at h;exact h))
 | .cA cs,h=>.cA (cC.refl (by rw[mh] at h;exact h))
 | .fn g a b,h=>by rw[mh,ac] at h;exact .fn (cC.refl h.1) (cC.refl h.2)
 | .iface t v,h=>.iface (Wk.refl (by rw[mh] at h;exact h))
 | .ptr _ _,h=>by simp[mh] at h
 | .map _,h=>by simp[mh] at h
 | .buf _ _ _ _,h=>by simp[mh] at h
def cC.refl:∀{vs:List SV},bV vs=true->cC S vs vs
 | [],_=>.nil
 | d::ds,h=>by rw[bV,ac] at h;exact .cons (Wk.refl h.1) (cC.refl h.2)
end
def cC.app:∀{a b c d:List SV},cC S a c->cC S b d->cC S (a++b) (c++d)
 | _,_,_,_,.nil,h=>h
 | _,_,_,_,.cons h1 h2,h=>.cons h1 (cC.app h2 h)
end
end
end Go.Ev
namespace Go.Proofs
open Go.Ev
section
variable (P:Program) (t:Nat)
abbrev fS(n:Nat)(z:List AV):Prop:=G5 P t=some (n,true)/\dq P t=some (.agg z)/\Pf P t=some none/\QP P t=none/\pc P t=true
abbrev fL(e n:Nat):Prop:=G5 P t=some (1,false)/\dq P t=some (.slice none 0 0 (some 0))/\Hz P t=some (e,n)/\QP P t=none/\iR P t=.sl/\pc P t=true
abbrev fA(n k e s:Nat)(z:AV):Prop:=G5 P t=some (n,true)/\dq P t=some (.agg (c6 k z))/\QP P t=some (k,e,s)/\Pf P t=some (some s)/\iR P t=.other
abbrev fM(k e:Nat):Prop:=G5 P t=some (1,false)/\dq P t=some (.map none)/\dB P t=some (k,e)/\iR P t=.map
abbrev fT:Prop:=G5 P t=some (1,false)/\dq P t=some (.str [])/\iR P t=.str/\pc P t=true
abbrev fI(k:IntKind):Prop:=G5 P t=some (1,false)/\dq P t=some (.int k 0)/\pc P t=true/\iR P t=.other/\isInt P t=true
abbrev fB(z:AV):Prop:=G5 P t=some (1,false)/\dq P t=some z/\pc P t=true
end
abbrev k0(P:Program)(t i a b c:Nat):Prop:=HI P t i=some (a,b,c)
abbrev k1(P:Program)(t a b c:Nat):Prop:=k0 P t 0 a b c
abbrev k2(P:Program)(t a b c d e f:Nat):Prop:=k1 P t a b c/\k0 P t 1 d e f
abbrev k3(P:Program)(t a b c d e f g h i:Nat):Prop:=k2 P t a b c d e f/\k0 P t 2 g h i
abbrev k4(P:Program)(t a b c d e f g h i j k l:Nat):Prop:=k3 P t a b c d e f g h i/\k0 P t 3 j k l
abbrev k5(P:Program)(t a b c d e f g h i j k l m n o:Nat):Prop:=k4 P t a b c d e f g h i j k l/\k0 P t 4 m n o
abbrev k6(P:Program)(t a b c d e f g h i j k l m n o p q r:Nat):Prop:=k5 P t a b c d e f g h i j k l m n o/\k0 P t 5 p q r
abbrev k7(P:Program)(t a b c d e f g h i j k l m n o p q r s u v:Nat):Prop:=k6 P t a b c d e f g h i j k l m n o p q r/\k0 P t 6 s u v
abbrev k8(P:Program)(t a b c d e f g h i j k l m n o p q r s u v w x y:Nat):Prop:=k7 P t a b c d e f g h i j k l m n o p q r s u v/\k0 P t 7 w x y
abbrev k9(P:Program)(t a b c d e f g h i j k l m n o p q r s u v w x y z a1 b1:Nat):Prop:=k8 P t a b c d e f g h i j k l m n o p q r s u v w x y/\k0 P t 8 z a1 b1
abbrev U0(P:Program)(t a b c d e f g h i j k l m n o p q r s u v w x y z a1 b1 c1 d1 e1:Nat):Prop:=k9 P t a b c d e f g h i j k l m n o p q r s u v w x y z a1 b1/\k0 P t 9 c1 d1 e1
abbrev U1(P:Program)(t a b c d e f g h i j k l m n o p q r s u v w x y z a1 b1 c1 d1 e1 f1 g1 h1:Nat):Prop:=U0 P t a b c d e f g h i j k l m n o p q r s u v w x y z a1 b1 c1 d1 e1/\k0 P t 10 f1 g1 h1
abbrev o0(P:Program)(t:Nat):Prop:=G5 P t=some (1,false)
abbrev o9(P:Program)(a b c d e f g h i j k l:Nat):Prop:=o0 P a/\o0 P b/\o0 P c/\o0 P d/\o0 P e/\o0 P f/\o0 P g/\o0 P h/\o0 P i/\o0 P j/\o0 P k/\o0 P l
abbrev s0(P:Program)(t:Nat):Prop:=fS P t 1 [.slice none 0 0 (some 0)]/\k1 P t 0 22 1
abbrev s1(P:Program)(t:Nat):Prop:=fS P t 3 [.int .i64 0,.int .i64 0,.slice none 0 0 (some 0)]/\k3 P t 0 3 1 1 3 1 2 25 1
abbrev s2(P:Program)(t:Nat):Prop:=fS P t 4 [.slice none 0 0 (some 0),.int .i64 0,.int .i64 0,.slice none 0 0 (some 0)]/\k2 P t 0 24 1 1 27 3
abbrev s3(P:Program)(t:Nat):Prop:=fS P t 6 [.slice none 0 0 (some 0),.slice none 0 0 (some 0),.slice none 0 0 (some 0),.slice none 0 0 (some 0),.slice none 0 0 (some 0),.slice none 0 0 (some 0)]/\k6 P t 0 30 1 1 31 1 2 32 1 3 33 1 4 30 1 5 34 1
abbrev s4(P:Program)(t:Nat):Prop:=fS P t 1 [.slice none 0 0 (some 0)]/\k1 P t 0 44 1
abbrev s5(P:Program)(t:Nat):Prop:=fS P t 2 [.int .i64 0,.int .i64 0]/\k2 P t 0 3 1 1 3 1
abbrev s6(P:Program)(t:Nat):Prop:=fS P t 6 [.int .i64 0,.int .i64 0,.int .i64 0,.int .i64 0,.int .i64 0,.int .i64 0]/\k3 P t 0 52 2 2 52 2 4 52 2
abbrev s7(P:Program)(t:Nat):Prop:=fS P t 14 [.str [],.str [],.str [],.str [],.int .i64 0,.int .i64 0,.bool false,.slice none 0 0 (some 0),.int .i64 0,.int .i64 0,.int .i64 0,.int .i64 0,.int .i64 0,.int .i64 0]/\k9 P t 0 9 1 1 9 1 2 9 1 3 9 1 4 3 1 5 3 1 6 4 1 7 50 1 8 54 6
abbrev s8(P:Program)(t:Nat):Prop:=fS P t 3 [.str [],.bool false,.slice none 0 0 (some 0)]/\k3 P t 0 9 1 1 4 1 2 59 1
abbrev s9(P:Program)(t:Nat):Prop:=fS P t 3 [.int .i64 0,.str [],.str []]/\k3 P t 0 3 1 1 9 1 2 9 1
abbrev Uq(P:Program)(t:Nat):Prop:=fS P t 6 [.int .i64 0,.str [],.str [],.int .i64 0,.int .i64 0,.slice none 0 0 (some 0)]/\k6 P t 0 3 1 1 9 1 2 9 1 3 3 1 4 3 1 5 69 1
abbrev Ur(P:Program)(t:Nat):Prop:=fS P t 8 [.str [],.str [],.int .i64 0,.str [],.str [],.int .i64 0,.int .i64 0,.slice none 0 0 (some 0)]/\k3 P t 0 9 1 1 9 1 2 71 6
abbrev Us(P:Program)(t:Nat):Prop:=fS P t 4 [.str [],.str [],.slice none 0 0 (some 0),.slice none 0 0 (some 0)]/\k4 P t 0 9 1 1 9 1 2 80 1 3 80 1
abbrev Ut(P:Program)(t:Nat):Prop:=fS P t 14 [.int .i64 0,.int .i64 0,.str [],.str [],.str [],.str [],.str [],.str [],.int .i64 0,.int .i64 0,.int .i64 0,.int .i64 0,.int .i64 0,.int .i64 0]/\k9 P t 0 3 1 1 3 1 2 9 1 3 9 1 4 9 1 5 9 1 6 9 1 7 9 1 8 88 6
abbrev TI(P:Program)(t:Nat):Prop:=fS P t 3 [.str [],.str [],.int .i64 0]/\k3 P t 0 9 1 1 9 1 2 3 1
abbrev Uu(P:Program)(t:Nat):Prop:=fS P t 2 [.slice none 0 0 (some 0),.map none]/\k2 P t 0 44 1 1 118 1
abbrev Uv(P:Program)(t:Nat):Prop:=fS P t 2 [.slice none 0 0 (some 0),.int .i64 0]/\k2 P t 0 46 1 1 3 1
abbrev Uw(P:Program)(t:Nat):Prop:=fS P t 28 [.str [],.str [],.str [],.str [],.int .i64 0,.int .i64 0,.bool false,.slice none 0 0 (some 0),.int .i64 0,.int .i64 0,.int .i64 0,.int .i64 0,.int .i64 0,.int .i64 0,.str [],.str [],.str [],.str [],.int .i64 0,.int .i64 0,.bool false,.slice none 0 0 (some 0),.int .i64 0,.int .i64 0,.int .i64 0,.int .i64 0,.int .i64 0,.int .i64 0]/\k2 P t 0 56 14 14 56 14
abbrev Ux(P:Program)(t:Nat):Prop:=fS P t 5 [.str [],.str [],.str [],.str [],.int .i64 0]/\k5 P t 0 9 1 1 9 1 2 9 1 3 9 1 4 3 1
abbrev Uy(P:Program)(t:Nat):Prop:=fS P t 5 [.str [],.str [],.str [],.int .i64 0,.int .i64 0]/\k5 P t 0 9 1 1 9 1 2 9 1 3 3 1 4 3 1
abbrev Uz(P:Program)(t:Nat):Prop:=fS P t 3 [.str [],.slice none 0 0 (some 0),.int .i64 0]/\k3 P t 0 9 1 1 66 1 2 3 1
abbrev TJ(P:Program)(t:Nat):Prop:=fS P t 2 [.str [],.str []]/\k2 P t 0 9 1 1 9 1
abbrev UA(P:Program)(t:Nat):Prop:=fS P t 6 [.int .i64 0,.int .i64 0,.int .i64 0,.int .i64 0,.int .i64 0,.int .i64 0]/\k1 P t 0 88 6
abbrev UB(P:Program)(t:Nat):Prop:=fS P t 5 [.str [],.str [],.str [],.int .i64 0,.int .i64 0]/\k1 P t 0 153 5
abbrev UC(P:Program)(t:Nat):Prop:=fS P t 4 [.ptr none,.ptr none,.ptr none,.str []]/\k4 P t 0 17 1 1 17 1 2 17 1 3 9 1
abbrev UD(P:Program)(t:Nat):Prop:=fS P t 0 []/\k1 P t 0 357 0
abbrev UE(P:Program)(t:Nat):Prop:=fS P t 11 [.int .u64 0,.int .u64 0,.int .u32 0,.int .u8 0,.int .u8 0,.int .u8 0,.int .u8 0,.ef,.ptr none,.int .i32 0,.int .i32 0]/\U1 P t 0 12 1 1 12 1 2 281 1 3 361 1 4 5 1 5 5 1 6 362 1 7 363 1 8 364 1 9 365 1 10 366 1
abbrev UH(P:Program):Prop:=s0 P 23/\s0 P 24/\s1 P 26/\s1 P 27/\s2 P 28/\s2 P 29/\s3 P 35/\s3 P 36/\s4 P 45/\s4 P 46/\s5 P 51/\s5 P 52/\s6 P 53/\s6 P 54/\s6 P 87/\s6 P 88/\s7 P 55/\s7 P 56/\s8 P 60/\s8 P 61/\s9 P 64/\s9 P 65/\Uq P 70/\Uq P 71
def OI:UH bN:=by
 (repeat' apply bd)<;>(change _=_;kernel_rfl)
abbrev UI(P:Program):Prop:=Ur P 72/\Ur P 73/\Us P 81/\Us P 82/\Ut P 89/\Ut P 90/\TI P 95/\TI P 96/\TI P 136/\TI P 137/\Uu P 119/\Uu P 120/\Uv P 127/\Uv P 128/\Uw P 142/\Uw P 143/\Ux P 146/\Ux P 147/\Uy P 152/\Uy P 153/\Uz P 154/\Uz P 155/\TJ P 197/\TJ P 198
def OJ:UI bN:=by
 (repeat' apply bd)<;>(change _=_;kernel_rfl)
abbrev UJ(P:Program):Prop:=TJ P 247/\TJ P 248/\UA P 202/\UA P 203/\UB P 226/\UB P 227/\UC P 355/\UC P 356/\UD P 358/\UD P 359/\UE P 367/\UE P 368/\o9 P 1 38 39 40 42 43 49 58 63 67 68 75/\o9 P 76 77 78 79 83 84 85 86 91 92 94 97/\o9 P 100 101 102 103 104 105 106 107 108 110 111 112/\o9 P 113 114 116 117 121 124 125 126 129 130 131 132/\o9 P 135 138 139 140 141 144 145 148 149 150 151 156/\o9 P 157 158 159 160 161 162 163 164 165 166 167 168/\o9 P 169 170 172 173 174 175 177 178 179 180 182 183/\o9 P 184 185 186 187 188 189 190 191 192 193 194 195/\o9 P 196 199 201 204 205 206 207 208 209 211 212 213/\o9 P 214 215 216 218 219 220 221 222 223 224 225 228/\o9 P 230 231 232 233 234 235 236 237 238 239 240 242/\o9 P 243 244 246 249 252 254 255 256 257 258 259 260
def OK:UJ bN:=by
 (repeat' apply bd)<;>(change _=_;kernel_rfl)
abbrev UK(P:Program):Prop:=o9 P 261 262 263 264 265 266 267 268 269 270 272 275/\o9 P 276 277 278 279 280 282 284 285 286 289 290 291/\o9 P 292 293 294 295 296 297 298 299 300 301 302 303/\o9 P 304 305 306 307 308 309 311 312 313 314 315 316/\o9 P 317 319 320 321 323 324 325 326 327 328 330 331/\o9 P 332 333 334 335 336 337 338 339 340 341 343 346/\o9 P 347 348 349 350 351 352 353 354 360 363 369 371/\fI P 2 .i64/\fI P 3 .i64/\fB P 4 (.bool false)/\fI P 5 .u8/\fT P 9/\fI P 21 .i32/\fL P 22 61 3/\fL P 25 27 3/\fL P 30 73 8/\fL P 31 147 5/\fL P 32 153 5/\fL P 33 96 3/\fL P 34 82 4/\fL P 37 90 14/\fL P 41 65 3/\fL P 44 56 14/\fI P 47 .i64
def OL:UK bN:=by
 (repeat' apply bd)<;>(change _=_;kernel_rfl)
abbrev UL(P:Program):Prop:=fL P 50 198 2/\fL P 59 155 3/\fL P 66 9 1/\fL P 69 71 6/\fI P 74 .i64/\fL P 80 3 1/\fM P 98 65 4/\fM P 99 65 4/\fB P 115 (.ptr none)/\fM P 118 9 3/\fM P 123 9 9/\fM P 133 9 4/\fM P 134 137 4/\fL P 200 52 2/\fI P 210 .u64/\fA P 241 256 256 5 1 (.int .u8 0)/\fM P 245 248 4/\fB P 250 (.ptr none)/\fA P 251 3 3 250 1 (.ptr none)/\fB P 253 (.ptr none)/\fI P 271 .i64/\fI P 273 .i64/\fI P 281 .u32/\fI P 283 .u64
def OM:UL bN:=by
 (repeat' apply bd)<;>(change _=_;kernel_rfl)
abbrev UM(P:Program):Prop:=fM P 288 9 286/\fA P 310 8 8 9 1 (.str [])/\fI P 318 .u64/\fB P 322 (.ptr none)/\fL P 329 108 1/\fL P 342 271 1/\fB P 344 (.ptr none)/\fA P 357 0 0 16 1 (.ptr none)/\fI P 361 .u8/\fI P 362 .u8/\fB P 364 (.ptr none)/\fI P 365 .i32/\fI P 366 .i32
def ON:UM bN:=by
 (repeat' apply bd)<;>(change _=_;kernel_rfl)
def aB:UH bN/\UI bN/\UJ bN/\UK bN/\UL bN/\UM bN:=⟨OI,OJ,OK,OL,OM,ON⟩
end Go.Proofs
namespace Go.Ev
variable{a:Prop}{b:Prop}
def y2(a1:a)(b1:b):a/\b:=⟨a1,b1⟩
variable{c:Prop}
def y3(a1:a)(b1:b)(c1:c):a/\b/\c:=⟨a1,b1,c1⟩
variable{d:Prop}
def y4(a1:a)(b1:b)(c1:c)(d1:d):a/\b/\c/\d:=⟨a1,b1,c1,d1⟩
variable{e:Prop}
def y5(a1:a)(b1:b)(c1:c)(d1:d)(e1:e):a/\b/\c/\d/\e:=⟨a1,b1,c1,d1,e1⟩
def y6{f:Prop}(a1:a)(b1:b)(c1:c)(d1:d)(e1:e)(f1:f):a/\b/\c/\d/\e/\f:=⟨a1,b1,c1,d1,e1,f1⟩
def y7{f g:Prop}(a1:a)(b1:b)(c1:c)(d1:d)(e1:e)(f1:f)(g1:g):a/\b/\c/\d/\e/\f/\g:=⟨a1,b1,c1,d1,e1,f1,g1⟩
def y8{f g h:Prop}(a1:a)(b1:b)(c1:c)(d1:d)(e1:e)(f1:f)(g1:g)(h1:h):a/\b/\c/\d/\e/\f/\g/\h:=⟨a1,b1,c1,d1,e1,f1,g1,h1⟩
section
variable {P:Program} {f:Fm} {S:List SO} {o:Nat}
def lY(v:AV):names o (.a v)=false:=by rw[names];all_goals (intros;contradiction)
def FG(n e:Nat)(cs:List SV):names o (.sl n e cs)=false:=by rw[names];all_goals (intros;contradiction)
def FE(ks:List AV)(vs:List SV):names o (.im ks vs)=false:=by rw[names];all_goals (intros;contradiction)
def FF(cs:List SV):names o (.ip cs)=false:=by rw[names];all_goals (intros;contradiction)
def BF:names o .any=false:=by rw[names];all_goals (intros;contradiction)
def Pl(k:IntKind)(n:Int):cS (.a (.int k n))=some [.a (.int k n)]:=rfl
def Pm(s:List Nat):cS (.a (.str s))=some [.a (.str s)]:=rfl
def Pk(b:Bool):cS (.a (.bool b))=some [.a (.bool b)]:=rfl
def KE(o:Option (Nat×Nat))(n e:Nat)(c:Option Nat):cS (.a (.slice o n e c))=some [.a (.slice o n e c)]:=rfl
def MK(n e:Nat)(cs:List SV):cS (.sl n e cs)=some [.sl n e cs]:=rfl
def MI(ks:List AV)(vs:List SV):cS (.im ks vs)=some [.im ks vs]:=rfl
def MJ(cs:List SV):cS (.ip cs)=some [.ip cs]:=rfl
def Hs(o off:Nat):cS (.ptr o off)=some [.ptr o off]:=rfl
def Hr(o:Nat):cS (.map o)=some [.map o]:=rfl
def FD(e:Nat):names o (.e0 e)=false:=by rw[names];all_goals (intros;contradiction)
def KJ(o off n e:Nat)(c:Option Nat):cS (.sub o off n e c)=some [.sub o off n e c]:=rfl
def MG(e:Nat):cS (.e0 e)=some [.e0 e]:=rfl
def KH(o n e:Nat)(c:Option Nat):cS (.buf o n e c)=some [.buf o n e c]:=rfl
def KI(g:FuncId)(a b:List SV):cS (.fn g a b)=some [.fn g a b]:=rfl
def MH(t:TypeId)(v:SV):cS (.iface t v)=some [.iface t v]:=rfl
def Qd(n e:Nat)(cs:List SV):eM (.sl n e cs)=true:=rfl
def P9(ks:List AV)(vs:List SV):eM (.im ks vs)=true:=rfl
def Qa(cs:List SV):eM (.ip cs)=true:=rfl
def NO(o off:Nat):eM (.ptr o off)=true:=rfl
def NN(o:Nat):eM (.map o)=true:=rfl
def NP(o off n e:Nat)(c:Option Nat):eM (.sub o off n e c)=true:=rfl
def P6(e:Nat):eM (.e0 e)=true:=rfl
def NM(o n e:Nat)(c:Option Nat):eM (.buf o n e c)=true:=rfl
def P7(g:FuncId)(a b:List SV):eM (.fn g a b)=true:=rfl
def P8(t:TypeId)(v:SV):eM (.iface t v)=true:=rfl
def RW(k:IntKind)(n:Int):jR (.int k n)=true:=rfl
def RX(s:List Nat):jR (.str s)=true:=rfl
def RV(b:Bool):jR (.bool b)=true:=rfl
def P5(o:Option (Nat×Nat))(n e:Nat)(c:Option Nat):jR (.slice o n e c)=true:=rfl
def Tf(k:IntKind)(n:Int):ua (.int k n)=.a (.int k n):=rfl
def Tg(s:List Nat):ua (.str s)=.a (.str s):=rfl
def Te(b:Bool):ua (.bool b)=.a (.bool b):=rfl
def Se(o:Option (Nat×Nat))(n e:Nat)(c:Option Nat):ua (.slice o n e c)=.a (.slice o n e c):=rfl
def QC(o:Option (Nat×Nat)):ua (.ptr o)=.a (.ptr o):=rfl
def QB(o:Option Nat):ua (.map o)=.a (.map o):=rfl
def Sd:ua .ef=.a .ef:=rfl
def bK(v w:SV)(l:List SV):ez (v::w::l)=.cA (v::w::l):=rfl
def R9(x:Operand)(aS:Array Operand)(ats:Array TypeId):dx P f S (.call { callee:=.value x,args:=aS,argTypes:=ats })=none:=rfl
def R8(x:Operand)(m:String)(aS:Array Operand)(ats:Array TypeId):dx P f S (.call { callee:=.invoke x m,args:=aS,argTypes:=ats })=none:=rfl
def oI(k:IntKind)(n:Nat):dj (.int k (n:Int))=some n:=rfl
def Li(k:IntKind)(n:Nat):dj (.int k (OfNat.ofNat n))=some n:=rfl
def KF(cs:List AV):(AV.agg cs).cells=cs:=rfl
def T6:=y8 @oP.eq_1 @oP.eq_2 @dx.eq_1 @dx.eq_2 @dx.eq_3 @dx.eq_4 @dx.eq_5 (y8 @dx.eq_6 @dx.eq_7 @dx.eq_8 @dx.eq_9 @dx.eq_10 @dx.eq_11 @dx.eq_12 (y8 @dx.eq_13 @dx.eq_14 @dx.eq_15 @dx.eq_16 @dx.eq_17 @dx.eq_18 @dx.eq_19 (y8 @dx.eq_20 @dx.eq_21 @dx.eq_22 @dx.eq_23 @dx.eq_24 @dx.eq_25 @dx.eq_26 (y8 @dx.eq_27 @yC.eq_1 @yC.eq_2 @tE.eq_1 @aJ.eq_1 @aJ.eq_2 @po.eq_1 (y5 @po.eq_2 @ly.eq_1 @ly.eq_2 @bX.eq_1 @bX.eq_2)))))
def T7:=y8 @Ku.eq_1 @Ku.eq_2 @eO.eq_1 @eO.eq_2 @eO.eq_3 @eO.eq_4 @pL.eq_1 (y8 @pL.eq_2 @lD.eq_1 @lD.eq_2 @wC.eq_1 @wC.eq_2 @sZ.eq_1 @sZ.eq_2 (y8 @Cm.eq_1 @nk.eq_1 @cU.eq_1 @cU.eq_2 @cU.eq_3 @iO.eq_1 @iO.eq_2 (y8 @H4.eq_1 @Ao.eq_1 @Ao.eq_2 @Ao.eq_3 @yB.eq_1 @yB.eq_2 @yB.eq_3 (y8 @yB.eq_4 @yB.eq_5 @tP.eq_1 @tP.eq_2 @tP.eq_3 @cy.eq_1 @dO.eq_1 (y3 @AA.eq_1 @AA.eq_2 @gH.eq_1)))))
def T8:=y8 @gH.eq_2 @gH.eq_3 @gH.eq_4 @gH.eq_5 @J0.eq_1 @Dj.eq_1 @aR.eq_1 (y8 @aR.eq_2 @aR.eq_3 @aR.eq_4 @aR.eq_5 @ph.eq_1 @yc.eq_1 @pz.eq_1 (y8 @CJ.eq_1 @mU.eq_1 @mU.eq_2 @mU.eq_3 @mU.eq_4 @bI.eq_1 @bI.eq_2 (y8 @bI.eq_3 @bI.eq_4 @bI.eq_5 @bI.eq_6 @bI.eq_7 @bZ.eq_1 @oM.eq_1 (y8 @oM.eq_2 @oM.eq_3 @ez.eq_1 @iD.eq_1 @ua.eq_1 @cS.eq_1 @cS.eq_2 (y8 @cS.eq_3 @eM.eq_1 @eM.eq_2 @eM.eq_3 @eM.eq_4 @names.eq_1 @names.eq_2 (y2 @names.eq_3 @names.eq_4))))))
def T9:=y8 @names.eq_5 @names.eq_6 @names.eq_7 @eG.eq_1 @eG.eq_2 @aO.eq_1 @uB.eq_1 (y8 @uB.eq_2 @Cb.eq_1 @Cb.eq_2 @kL.eq_1 @kL.eq_2 @lY @FG (y8 @FE @FF @BF @KE @Pl @Pm @Pk (y8 @MK @MI @MJ @KH @MH @Qd @P9 (y8 @Qa @NO @NN @NM @P7 @P8 @RW (y5 @RX @RV @P5 @Tf @Tg)))))
def Ua:=y8 @Te @Se @QC @QB @Sd @bK @R9 (y8 @R8 @oI @Hs @Hr @KI @Li @KF (y8 @KG @Sl @Mz @MD @MC @MA @xL (y8 @MB (λ{P:Program} {t:TypeId} {a b:Int}=>@Jp P t a b _ Bu) (λ{P:Program} {t:TypeId} {a b:Int}=>@Ck P t a b _ Bu) (λ{P:Program} {t:TypeId} {a b:Int}=>@Jo P t a b _ Bu) (λ{P:Program} {t:TypeId} {a b:Int}=>@Jn P t a b _ Bu) (λ{P:Program} {t:TypeId} {a b:Int}=>@Cj P t a b _ Bu) (λ{P:Program} {t:TypeId} {a b:Int}=>@sL P t a b _ Bu) (y8 (λ{P:Program} {t:TypeId} {a b:Int}=>@Jp P t a b _ K9) (λ{P:Program} {t:TypeId} {a b:Int}=>@Ck P t a b _ K9) (λ{P:Program} {t:TypeId} {a b:Int}=>@Jo P t a b _ K9) (λ{P:Program} {t:TypeId} {a b:Int}=>@Jn P t a b _ K9) (λ{P:Program} {t:TypeId} {a b:Int}=>@Cj P t a b _ K9) (λ{P:Program} {t:TypeId} {a b:Int}=>@sL P t a b _ K9) @names.eq_8 (y8 @yB.eq_6 @yB.eq_7 @tP.eq_4 @tP.eq_5 @aR.eq_6 @aR.eq_7 @mU.eq_6 (y8 @mU.eq_8 @mU.eq_9 @mU.eq_10 @gH.eq_6 @gH.eq_7 @gH.eq_8 @Mq.eq_1 (y8 @Mq.eq_2 @Mq.eq_3 @Ky.eq_1 @Ky.eq_2 @Ky.eq_3 @Ky.eq_4 @Jy.eq_1 (y8 @MT.eq_1 @Cp.eq_1 @Sq.eq_1 @Sq.eq_2 @Hq.eq_1 @Hq.eq_2 @Hq.eq_3 (y8 @Hq.eq_4 @FD @KJ @MG @NP @P6 @wS.eq_1 @xk.eq_1)))))))))
def cN:=y5 T6 T7 T8 T9 Ua
end
noncomputable section
def jP:Op->Bool
 | .move _ | .assign _ | .pick _ _ _ | .build _ _ | .nilCheck _ | .binOp _ _ _ _ _ | .unOp _ _ _ | .convert _ _ _ | .fieldAddr _ _ _ | .field _ _ _ | .indexAddr _ _ _ | .index _ _ _ | .extract _ _ | .load _ _ | .lookup _ _ _ _ | .slice _ _ _ _ _=>true
 | .makeFunc (.func _) _ _=>true
 | .makeFunc (.method _) _ _=>true
 | .call { callee:=.builtin .len,.. }=>true
 | _=>false
def HQ:Op->Bool
 | .load _ _ | .lookup _ _ _ _ | .call _ | .slice _ _ _ _ _=>true
 | _=>false
variable{P:Program}
def Ov{f:Fm}{S S':List SO}{op:Op}(hr:jP op=true){v:SV}{kill:Option Nat}(h:dx P f S op=some (v,S',kill)):S'=S/\kill=none:=by
 cases op with
 | move x=>obtain⟨_,_,e⟩:=aw h;cases e;exact⟨rfl,rfl⟩
 | assign x=>obtain⟨_,_,e⟩:=aw h;cases e;exact⟨rfl,rfl⟩
 | pick c a b=>obtain⟨_,_,e⟩:=aw h;cases e;exact⟨rfl,rfl⟩
 | build tt ps=>obtain⟨_,_,h⟩:=ul h;obtain⟨_,_,e⟩:=aw h;cases e;exact⟨rfl,rfl⟩
 | nilCheck x=>obtain⟨_,_,h⟩:=ul h;obtain⟨_,_,e⟩:=aw h;cases e;exact⟨rfl,rfl⟩
 | binOp op xt x y yt=>
  obtain⟨_,_,h⟩:=ul h;obtain⟨_,_,h⟩:=ul h;obtain⟨_,_,h⟩:=ul h;obtain⟨_,_,h⟩:=ul h;obtain⟨_,_,e⟩:=aw h;cases e;exact⟨rfl,rfl⟩
 | unOp op xt x=>
  obtain⟨_,_,h⟩:=ul h;obtain⟨_,_,h⟩:=ul h;obtain⟨_,_,e⟩:=aw h;cases e;exact⟨rfl,rfl⟩
 | convert s d x=>
  obtain⟨_,_,h⟩:=ul h;obtain⟨_,_,h⟩:=ul h;obtain⟨_,_,e⟩:=aw h;cases e;exact⟨rfl,rfl⟩
 | fieldAddr s x fl=>obtain⟨_,_,h⟩:=ul h;obtain⟨_,_,e⟩:=aw h;cases e;exact⟨rfl,rfl⟩
 | field s x fl=>obtain⟨_,_,h⟩:=ul h;obtain⟨_,_,e⟩:=aw h;cases e;exact⟨rfl,rfl⟩
 | indexAddr s x i=>
  obtain⟨_,_,h⟩:=ul h;obtain⟨_,_,h⟩:=ul h;obtain⟨_,_,e⟩:=aw h;cases e;exact⟨rfl,rfl⟩
 | index s x i=>
  obtain⟨_,_,h⟩:=ul h;obtain⟨_,_,h⟩:=ul h;obtain⟨_,_,e⟩:=aw h;cases e;exact⟨rfl,rfl⟩
 | extract x i=>
  simp only[dx] at h;split at h
  ·obtain⟨_,_,e⟩:=aw h;cases e;exact⟨rfl,rfl⟩
  ·cases h
 | makeFunc g first cap=>
  cases g with
  | func g=>obtain⟨_,_,h⟩:=ul h;obtain⟨_,_,e⟩:=aw h;cases e;exact⟨rfl,rfl⟩
  | method nm=>
   obtain⟨_,_,h⟩:=ul h;obtain⟨_,_,h⟩:=ul h;obtain⟨_,_,h⟩:=ul h;obtain⟨_,_,e⟩:=aw h;cases e;exact⟨rfl,rfl⟩
  | _=>simp[jP] at hr
 | load tt a=>obtain⟨_,_,h⟩:=ul h;obtain⟨_,_,e⟩:=aw h;cases e;exact⟨rfl,rfl⟩
 | lookup tt x k ok=>
  obtain⟨_,_,h⟩:=ul h;obtain⟨_,_,h⟩:=ul h;obtain⟨_,_,e⟩:=aw h;cases e;exact⟨rfl,rfl⟩
 | slice tt x lo hi mx=>
  obtain⟨_,_,h⟩:=ul h;obtain⟨_,_,h⟩:=ul h;obtain⟨_,_,h⟩:=ul h;obtain⟨_,_,h⟩:=ul h;obtain⟨_,_,e⟩:=aw h;cases e;exact⟨rfl,rfl⟩
 | call c=>
  obtain⟨callee,aS,ats⟩:=c
  cases callee with
  | builtin b=>
   cases b with
   | len=>
    obtain⟨_,_,h⟩:=ul h;rename_i vs _
    cases hats:ats.toList with
    | nil=>rw[hats] at h;cases h
    | cons tt l=>
     rw[hats] at h
     cases vs with
     | nil=>cases h
     | cons x l'=>
      have h:(yB P S tt x).map (λ(n:Nat)=>((SV.a (.int .i64 (n:Int)),S,none):SV×List SO×Option Nat))=some (v,S',kill):=h;obtain⟨_,_,e⟩:=aw h;cases e;exact⟨rfl,rfl⟩
   | _=>simp[jP] at hr
  | _=>simp[jP] at hr
 | _=>simp[jP] at hr
section
variable {θ:Nat->Loc} {ρ ρ0:jY} {P:Program}
mutual
def EZ:∀{r:SV} {v:AV},cU r=some v->VS θ ρ r v
 | .a w,v,h=>by rw[cU] at h;cases h;rw[VS]
 | .ag cs,v,h=>by rw[cU] at h;obtain⟨aS,h1,rfl⟩:=aw h;rw[VS];exact⟨aS,rfl,tg h1⟩
 | .any,_,h=>by simp[cU] at h
 | .sl _ _ _,_,h=>by simp[cU] at h
 | .im _ _,_,h=>by simp[cU] at h
 | .ip _,_,h=>by simp[cU] at h
 | .ptr _ _,_,h=>by simp[cU] at h
 | .map _,_,h=>by simp[cU] at h
 | .buf _ _ _ _,_,h=>by simp[cU] at h
 | .sub _ _ _ _ _,_,h=>by simp[cU] at h
 | .e0 _,_,h=>by simp[cU] at h
 | .cA _,_,h=>by simp[cU] at h
 | .fn _ _ _,_,h=>by simp[cU] at h
 | .iface t w,v,h=>by rw[cU] at h;obtain⟨a,h1,rfl⟩:=aw h;rw[VS];exact⟨a,rfl,EZ h1⟩
def tg:∀{rs:List SV} {vs:List AV},iO rs=some vs->db θ ρ rs vs
 | [],vs,h=>by rw[iO] at h;cases h;rw[bl]
 | d::ds,vs,h=>by
  rw[iO] at h;obtain⟨a,ha,h⟩:=ul h;obtain⟨b,hb,rfl⟩:=aw h;rw[aN];exact⟨a,b,rfl,EZ ha,tg hb⟩
end
end
section
variable {P:Program} {ro:Option Nat} {Q:Ex->ep->Prop} {f f':Fm} {n:Nat} {S S':List SO} {ds:List js}
def aF.Q9{id:Nat}{ops:Array Oper}{l':List Oper}(hs:dn ops.toList n ops.toList=true)(h:oP P ops.toList ops.toList f S=(l',f',S'))(hk:aK P ro ops.toList l' ⟨f',n,S',ds⟩ (Q .normal)):aF P ro (.region id ops false) ⟨f,n,S,ds⟩ Q:=.region (.run hs h hk)
def aF.r0{id:Nat}{ops:Array Oper}(hs:dn ops.toList n ops.toList=true)(h:oP P ops.toList ops.toList f S=([],f',S'))(hk:Q .normal ⟨f',n,S',ds⟩):aF P ro (.region id ops false) ⟨f,n,S,ds⟩ Q:=.Q9 hs h (.nil hk)
def aK.r0{all l:List Oper}{K:ep->Prop}(hs:dn all n l=true)(h:oP P all l f S=([],f',S'))(hk:K ⟨f',n,S',ds⟩):aK P ro all l ⟨f,n,S,ds⟩ K:=.run hs h (.nil hk)
theorem aK.k{all:List Oper}{o:Oper}{l:List Oper}{K:ep->Prop}{d:Nat}{c:Call}{g:FuncId}{vs ws:List SV}{r:SV}(hst:dn all n [o]=true)(hop:o.op=.call c)(hdst:o.dst=some d)(hw:bX all f o.guard=some true)(hdy:fE (.call c)=true)
 (hc:iD P f c=some (g,vs)) (hq:PC P g ws (·=r)) (hwk:cC S vs ws) (hfl:vB r=true\/cC [] vs ws) (hk:aK P ro all l ⟨(d,r)::f,n,S,ds⟩ K):aK P ro all (o::l) ⟨f,n,S,ds⟩ K:=by
 have hd:=(fD hst).1;rw[hdst] at hd;exact .call hop hdst (e8 hst hw) hdy hd hc hq hwk (hfl.imp (λh r hr=>by rw[hr];exact h) id) (λr hr=>by rw[hr];exact hk)
end
def Th:(∀(a:SV) (l:List SV) (i:Nat),(a::l)[i+1]?=l[i]?)/\(∀(a:SV) (l:List SV),(a::l)[0]?=some a)/\(∀(a:AV) (l:List AV) (i:Nat),(a::l)[i+1]?=l[i]?)/\(∀(a:AV) (l:List AV),(a::l)[0]?=some a)/\(∀(a:SO) (l:List SO) (i:Nat),(a::l)[i+1]?=l[i]?)/\(∀(a:SO) (l:List SO),(a::l)[0]?=some a)/\(∀(a:Oper) (l:List Oper) (i:Nat),(a::l)[i+1]?=l[i]?)/\(∀(a:Oper) (l:List Oper),(a::l)[0]?=some a)/\(∀(a:SV) (l:List SV) (i:Nat),(a::l).drop (i+1)=l.drop i)/\(∀l:List SV,l.drop 0=l)/\(∀i:Nat,([]:List SV).drop i=[])/\(∀(i:Nat) (a:SV) (l:List SV),(a::l).take (i+1)=a::l.take i)/\(∀l:List SV,l.take 0=[])/\(∀i:Nat,([]:List SV).take i=[])/\(∀(p:SV->Bool) (a:SV) (l:List SV),(a::l).all p=(p a&&l.all p))/\(∀p:SV->Bool,([]:List SV).all p=true)/\(∀l:List SV,[]++l=l)/\(∀(a:SV) (l m:List SV),(a::l)++m=a::(l++m))/\(∀(a b:SV) (l:List SV),(a::l).set 0 b=b::l)/\(∀(a b:SV) (l:List SV) (i:Nat),(a::l).set (i+1) b=a::l.set i b)/\(∀l:List SO,[]++l=l)/\(∀(a:SO) (l m:List SO),(a::l)++m=a::(l++m))/\(∀(a b:SO) (l:List SO),(a::l).set 0 b=b::l)/\(∀(a b:SO) (l:List SO) (i:Nat),(a::l).set (i+1) b=a::l.set i b)/\(∀(a:SV) (l:List SV),(a::l).length=l.length+1)/\(([]:List SV).length=0)/\(∀(a:SO) (l:List SO),(a::l).length=l.length+1)/\(([]:List SO).length=0)/\(∀(a:AV) (l:List AV),(a::l).length=l.length+1)/\(([]:List AV).length=0):=by
 (repeat' apply bd)<;>intros<;>first | rfl | (simp;done) | (unfold qf;rfl)
def Ti:(∀(f:AV->SV) (a:AV) (l:List AV),(a::l).map f=f a::l.map f)/\(∀f:AV->SV,([]:List AV).map f=[])/\(∀(f:SV->SV) (a:SV) (l:List SV),(a::l).map f=f a::l.map f)/\(∀f:SV->SV,([]:List SV).map f=[])/\(∀(f:SO->SO) (a:SO) (l:List SO),(a::l).map f=f a::l.map f)/\(∀f:SO->SO,([]:List SO).map f=[])/\(∀(f:(Nat×SV)->(Nat×SV)) (a:(Nat×SV)) (l:List (Nat×SV)),(a::l).map f=f a::l.map f)/\(∀f:(Nat×SV)->(Nat×SV),([]:List (Nat×SV)).map f=[])/\(∀l:List Oper,l.toArray.toList=l)/\(∀l:List Operand,l.toArray.toList=l)/\(∀l:List TypeId,l.toArray.toList=l)/\(∀l:List (Nat×Operand),l.toArray.toList=l)/\(∀l:List ResultVar,l.toArray.toList=l)/\(∀x y:SV,cond true x y=x)/\(∀x y:SV,cond false x y=y)/\(∀x y:Bool,cond true x y=x)/\(∀x y:Bool,cond false x y=y)/\(∀x y:Option (SV×List SO×Option Nat),cond true x y=x)/\(∀x y:Option (SV×List SO×Option Nat),cond false x y=y)/\(∀x y:Option SV,cond true x y=x)/\(∀x y:Option SV,cond false x y=y)/\(∀x y:Option (List SO),cond true x y=x)/\(∀x y:Option (List SO),cond false x y=y)/\(∀n:Nat,0+n=n)/\(∀n:Nat,n+0=n)/\(∀n:Nat,0*n=0)/\(∀b,(b||false)=b)/\(∀b,(false||b)=b)/\(∀b,(b||true)=true)/\(∀b,(true||b)=true):=by
 (repeat' apply bd)<;>intros<;>first | rfl | (simp;done) | (unfold qf;rfl)
def Tj:(∀b,(b&&true)=b)/\(∀b,(true&&b)=b)/\(∀b,(b&&false)=false)/\(∀b,(false&&b)=false)/\((!true)=false)/\((!false)=true)/\(∀p:Prop,(p/\True)=p)/\(∀p:Prop,(True/\p)=p)/\((¬False)=True)/\((¬True)=False)/\(∀a b:Nat,(a≠b)=¬(a=b))/\(∀b:Bool,(b=b)=True)/\(∀n:Nat,(n=n)=True)/\((false=true)=False)/\((true=false)=False)/\(∀{α:Type} (p:Prop) [Decidable p] (x:Option α),qf p x=if p then x else none):=by
 (repeat' apply bd)<;>intros<;>first | rfl | (simp;done) | (unfold qf;rfl)
def Tk:(∀(k:IntKind) (n:Int),lL mD (.int k n)=some (.int k n))/\(∀b,lL mD (.bool b)=some (.bool b))/\(lL mD (.pointer none)=some (.ptr none))/\(lL mD (.slice none 0 0)=some (.slice none 0 0 (some 0)))/\(lL mD (.map none)=some (.map none))/\(lL mD .nilFunc=some .ef)/\(∀s,lL mD (.string s)=some (.str (s.data.toList.map (·.toNat))))/\(∀l:List UInt8,l.toArray.toList=l)/\(∀(f:UInt8->Nat) (a:UInt8) (l:List UInt8),(a::l).map f=f a::l.map f)/\(∀f:UInt8->Nat,([]:List UInt8).map f=[])/\(∀h:Decidable False,@decide False h=false)/\(∀h:Decidable True,@decide True h=true):=by
 (repeat' apply bd)<;>intros<;>first | rfl | (simp;done)
def Tl:(∀l:List (Nat×SV),[]++l=l)/\(∀(a:Nat×SV) (l m:List (Nat×SV)),(a::l)++m=a::(l++m))/\(∀z:List AV,rep z 0=[])/\(∀(z:List AV) (n:Nat),rep z (n+1)=z++rep z n)/\(∀l:List AV,[]++l=l)/\(∀(a:AV) (l m:List AV),(a::l)++m=a::(l++m))/\(∀s,(AV.str s).cells=[.str s])/\(∀k n,(AV.int k n).cells=[.int k n])/\(∀b,(AV.bool b).cells=[.bool b])/\(∀o n e c,(AV.slice o n e c).cells=[.slice o n e c])/\(∀o,(AV.ptr o).cells=[.ptr o])/\(∀o,(AV.map o).cells=[.map o])/\(AV.ef.cells=[.ef])/\(AV.wB.cells=[.wB]):=by
 (repeat' apply bd)<;>intros<;>first | rfl | (simp;done)
def bL:type_of% Th/\type_of% Ti/\type_of% Tj/\type_of% Tk/\type_of% Tl:=⟨Th,Ti,Tj,Tk,Tl⟩
def fF(k:Nat):((k+1:Nat):Int)=(k:Int)+1:=rfl
def RJ{k l B:Nat}(h1:k<l)(h2:l<=B)(hB:B<=9223372036854775807) : -9223372036854775808<=(k:Int)+1/\(k:Int)+1<=9223372036854775807:=⟨by omega,by omega⟩
def A8.of{fn:Func}{Q:SV->Prop}{e:Ex}{f:Fm}{n:Nat}{S:List SO}{rs:List ResultVar}{vs:List SV}{r:SV}(he:j9 e=true)(hr:fn.results.toList=rs)(h:oM P f S rs=some vs)(hw:Wk S (ez vs) r)(hq:Q r):A8 P fn Q e ⟨f,n,S,[]⟩:=by
 subst hr;exact⟨he,rfl,vs,r,h,hw,hq⟩
abbrev ah(s:List Nat):SV:=.a (.str s)
abbrev ab(n:Int):SV:=.a (.int .i64 n)
abbrev ai(b:Bool):SV:=.a (.bool b)
variable{α:Type}
def ak(e:Nat)(l:List α)(enc:α->List SV):SV:=.sl l.length e (l.flatMap enc)
def aT{α:Type}{e:Nat}{enc:α->List SV}(he:∀x,(enc x).length=e):∀{l:List α} {i:Nat} {x:α},l[i]?=some x->((l.flatMap enc).drop (i*e)).take e=enc x
 | [],i,x,h=>by simp at h
 | a::l,0,x,h=>by
  simp only[ax,qr] at h;subst h;rw[bB,b0,cp,List.take_append_of_le_length (by rw[he];exact bv _),cd (by rw[he];exact bv _)]
 | a::l,i+1,x,h=>by
  simp only[ap] at h;have ih:=aT he h;rw[cp,d0,Nat.add_comm,<-a3,show List.drop e (enc a++l.flatMap enc)=l.flatMap enc from by rw[List.drop_append_of_le_length (by rw[he];exact bv _),bk (by rw[he];exact bv _),c0]];exact ih
def fP(p:α->Bool)(l:List α):Int:=match l.findIdx? p with
 | some k=>(k:Int)
 | none => -1
def lQ{p:α->Bool}{l:List α}{k:Nat}{x:α}(h1:l[k]?=some x)(h2:p x=true)(h3:∀(i:Nat) y,i<k->l[i]?=some y->p y=false):fP p l=(k:Int):=by
 have:l.findIdx? p=some k:=by
  rw[List.findIdx?_eq_some_iff_getElem];obtain⟨hlt,he⟩:=rt h1;refine⟨hlt,by rw[he];exact h2,λj hj=>?_⟩;rw[h3 j _ hj (jp i4)];decide
 unfold fP;rw[this]
def hY{p:α->Bool}{l:List α}(h3:∀(i:Nat) y,i<l.length->l[i]?=some y->p y=false):fP p l = -1:=by
 have:l.findIdx? p=none:=by
  rw[List.findIdx?_eq_none_iff];intro x hx;obtain⟨i,hi⟩:=List.mem_iff_getElem?.1 hx;exact h3 i x (br hi) hi
 unfold fP;rw[this]
def aG(c:α->SV)(x:α):List SV:=[c x]
def PC.of{g:FuncId}{aS:List SV}{xs:List AV}{v:AV}(h:∀h,dZ P (.func g) xs h (λa h'=>a=v/\h'=h))(hx:∀ρ avs,jO ρ aS avs->avs=xs):PC P g aS (·=.a v):=
 λρ hh avs h1 h2=>by
  have:=hx ρ avs h2;subst this;exact(h hh).mono λa h' ⟨e1,e2⟩=>⟨.a v,ρ,rfl,by rw[e2];exact .refl _ _,λid ob hi=>.inl hi,by rw[GS];exact e1⟩
def qG(e:Nat)(l:List α)(enc:α->List SV):ak e l enc=.sl l.length e (l.flatMap enc):=rfl
section
variable {P:Program} {K U:Type} [DecidableEq K] {kv:K->AV} {uv:U->SV} {S:List SO} {t kt et:TypeId} {z:AV} {u0:U} {l:List (K×U)} {o:Nat} {x:SV} {k:K}
def bH(kv:K->AV)(uv:U->SV)(l:List (K×U)):SO:=.map (l.map λe=>kv e.1) (l.map λe=>uv e.2) none
abbrev lR(kv:K->AV)(uv:U->SV)(l:List (K×U)):SV:=.im (l.map λe=>kv e.1) (l.map λe=>uv e.2)
def q7(hk:Keys P kt kv)(k:K):∀(l:List (K×U)) (j:Nat),td P kt (kv k) (l.map λe=>kv e.1) j=some (vg k l j)
 | [],_=>rfl
 | e::l,j=>by
  rw[am,td,hk.eq];by_cases h:k=e.1
  ·simp only[h,decide_true,vg,if_true]
  ·simp only[h,decide_false,vg,if_false];exact q7 hk k l (j+1)
def Fu(hm:dB P t=some (kt,et))(hk:Keys P kt kv)(hz:dq P et=some z)(hu:ua z=uv u0)(hS:Ao S x=some (l.map (λe=>kv e.1),l.map λe=>uv e.2)){y:SV}(hf:cU y=some (kv k))(ok:Bool):
 iZ P S t x y ok=some (_root_.cond ok (.cA [uv (getM u0 k l),ai (dG k l)]) (uv (getM u0 k l))):=by
 unfold iZ;rw[hm,m7];simp only;rw[hf,m7,hk.ck,an,hS,m7];simp only;rw[q7 hk,m7]
 cases hp:vg k l 0 with
 | none=>
  have hn:=ru hp;simp only[hz,m6,yj hn,hn,hu]
 | some i=>
  obtain⟨_,u,h2,h3,_,h5⟩:=oL hp;rw[ct] at h2;simp only[a5,h2,m6,h3,h5]
def Ny(hm:dB P t=some (kt,et))(hk:Keys P kt kv)(hz:dq P et=some z)(hu:ua z=uv u0)(hS:S[o]?=some (bH kv uv l))(hf:cU x=some (kv k))(ok:Bool):
 iZ P S t (.map o) x ok=some (_root_.cond ok (.cA [uv (getM u0 k l),ai (dG k l)]) (uv (getM u0 k l))):=
 Fu hm hk hz hu (by simp only[Ao,hS,bH]) hf ok
def Q3(hm:dB P t=some (kt,et))(hk:Keys P kt kv)(hz:dq P et=some z)(hu:ua z=uv u0)(hf:cU x=some (kv k))(ok:Bool):
 iZ P S t (lR kv uv l) x ok=some (_root_.cond ok (.cA [uv (getM u0 k l),ai (dG k l)]) (uv (getM u0 k l))):=
 Fu hm hk hz hu (by simp only[lR,Ao]) hf ok
def Ie(hm:dB P t=some (kt,et))(hk:Keys P kt kv)(hS:S[o]?=some (bH kv uv l))(hf:cU x=some (kv k))(u:U):
 ij P S t (.map o) x (uv u)=some (S.set o (bH kv uv (cD k u l))):=by
 unfold ij;rw[hm,m7];simp only;rw[hf,m7,hk.ck,an,hS];simp only[bH];rw[q7 hk,m7]
 cases hp:vg k l 0 with
 | none=>
  have hn:=ru hp;simp only[qB hn,bt,am,bu,Option.map_none]
 | some i=>
  obtain⟨_,u',h2,_,h4,_⟩:=oL hp;rw[ct] at h2;have h4:=h4 u;rw[ct] at h4;simp only[a5,h2,m6,m7,hk.st,an,h4,List.map_set]
omit [DecidableEq K] in
def mi{n:Nat}(h:∀u,names n (uv u)=false):bI n (bH kv uv l)=bH kv uv l:=by
 simp only[bI,bH,List.map_map]
 congr 1
 refine List.map_congr_left λe _=>?_;simp only[Function.comp,aO,h,au]
omit [DecidableEq K] in
def pw(h:∀u,mh (uv u)=true):∀l:List (K×U),bV (l.map λe=>uv e.2)=true
 | []=>rfl
 | e::l=>by rw[am,bV,h,b7];exact pw h l
omit [DecidableEq K] in
def l9(h:∀u,mh (uv u)=true)(hS:S[o]?=some (bH kv uv l)):Wk S (.map o) (lR kv uv l):=Wk.map hS (cC.refl (pw h l))
end
def Ns{kt:TypeId}(h:P.underlying kt=some .string):Keys P kt AV.str where
 eq a b:=by unfold ll;rw[h];simp only[lq]
 ck a:=by unfold wy EH;rw[h]
 st a:=by unfold stays Da;simp only[mE,Bool.true_and];exact Bg _ _
def qt{n:Nat}{l:List (List Nat×Bool)}:bI n (bH AV.str ai l)=bH AV.str ai l:=mi λ_=>lY _
def RN{n:Nat}{l:List (List Nat×Int)}:bI n (bH AV.str ab l)=bH AV.str ab l:=mi λ_=>lY _
inductive Kd where
 | b
 | i (k:IntKind)
 | s
def L9:Kd->AV->Bool
 | .b,.bool _=>true
 | .i k,.int k' _=>Ay k k'
 | .s,.str _=>true
 | _,_=>false
def rK:List Kd->List AV->Bool
 | [],[]=>true
 | k::ks,x::xs=>L9 k x&&rK ks xs
 | _,_=>false
def ye(P:Program)(rec:TypeId->Option (List Kd)):List Field->Nat->Option (List Kd)
 | [],_=>some []
 | f::fs,off=>cond (!(f.name== "_")&&beq f.offset off) ((rec f.type).bind λks=>(ye P rec fs (off+ks.length)).map λr=>ks++r) none
def flatK(P:Program):Nat->TypeId->Option (List Kd)
 | 0,_=>none
 | d+1,t=>match P.underlying t,G5 P t with
  | some .bool,some (1,false)=>some [.b]
  | some (.int k),some (1,false)=>some [.i k]
  | some .string,some (1,false)=>some [.s]
  | some (.struct fs),some (n,true)=>cond (P.stoodInHeld t) none ((ye P (flatK P d) fs.toList 0).bind λks=>cond (beq ks.length n) (some ks) none)
  | _,_=>none
def yq:∀{ks:List Kd} {xs:List AV},rK ks xs=true->xs.length=ks.length
 | [],[],_=>rfl
 | [],_::_,h=>by cases h
 | _::_,[],h=>by cases h
 | k::ks,x::xs,h=>by
  rw[rK,ac] at h;simp[yq h.2]
def sm:∀{k1 k2:List Kd} {xs:List AV},rK (k1++k2) xs=true->rK k1 (xs.take k1.length)=true/\rK k2 (xs.drop k1.length)=true
 | [],k2,xs,h=>⟨rfl,h⟩
 | k::k1,k2,[],h=>by cases h
 | k::k1,k2,x::xs,h=>by
  have h:(L9 k x&&rK (k1++k2) xs)=true:=h;rw[ac] at h;obtain⟨h1,h2⟩:=sm h.2;exact⟨by show(L9 k x&&rK k1 (xs.take k1.length))=true;rw[h.1,h1];rfl,h2⟩
def xC(e:AV->AV->Bool):∀(n:Nat) {xs ys:List AV},xs.length=ys.length->fJ e xs ys=(fJ e (xs.take n) (ys.take n)&&fJ e (xs.drop n) (ys.drop n))
 | 0,xs,ys,_=>by rw[List.take_zero,List.take_zero];rfl
 | n+1,[],[],_=>rfl
 | n+1,x::xs,y::ys,h=>by
  have h:xs.length=ys.length:=by simpa using h
  show(e x y&&fJ e xs ys)=((e x y&&fJ e (xs.take n) (ys.take n))&&fJ e (xs.drop n) (ys.drop n));rw[xC e n h,Bool.and_assoc]
 | n+1,[],y::ys,h=>by simp at h
 | n+1,x::xs,[],h=>by simp at h
section
variable {P:Program}
def EqAt(P:Program)(d:Nat)(t:TypeId)(ks:List Kd):Prop:=
 (∃k,ks=[k]/\G5 P t=some (1,false)/\∀x y,L9 k x=true->L9 k y=true->ll P d t x y=some (eC x y)/\EH P d t x=true)\/
 (G5 P t=some (ks.length,true)/\∀xs ys,rK ks xs=true->rK ks ys=true->ll P d t (.agg xs) (.agg ys)=some (fJ eC xs ys)/\EH P d t (.agg xs)=true)
def Bj{d:Nat}(hrec:∀t ks,flatK P d t=some ks->EqAt P d t ks):∀{fs:List Field} {off:Nat} {ks:List Kd},ye P (flatK P d) fs off=some ks->∀xs ys,xs.length=ys.length->off+ks.length=xs.length->rK ks (xs.drop off)=true->rK ks (ys.drop off)=true->
 eqFields P (ll P d) fs xs ys=some (fJ eC (xs.drop off) (ys.drop off))/\om P (EH P d) fs xs=true
 | [],off,ks,h,xs,ys,hl,hle,h1,h2=>by
  simp only[ye,qr] at h;subst h;have e1:xs.drop off=[]:=List.drop_of_length_le (by simp at hle;omega);have e2:ys.drop off=[]:=List.drop_of_length_le (by simp at hle;omega);rw[e1,e2];exact⟨rfl,rfl⟩
 | f::fs,off,ks,h,xs,ys,hl,hle,h1,h2=>by
  simp only[ye] at h;obtain⟨hb,h⟩:=aH h;rw[Bool.and_eq_true] at hb;have hoff:=cV hb.2
  have hnm:(f.name== "_")=false:=by have:=hb.1;cases hq:(f.name== "_");rfl;rw[hq] at this;cases this
  obtain⟨k1,hk1,h⟩:=ul h;obtain⟨r,hr,rfl⟩:=aw h;obtain⟨a1,a2⟩:=sm h1;obtain⟨b1,b2⟩:=sm h2;rw[List.drop_drop] at a2 b2;rw[li] at hle;obtain⟨ih1,ih2⟩:=Bj hrec hr xs ys hl i4 a2 b2;have hs:=xC eC k1.length (xs:=xs.drop off) (ys:=ys.drop off) (by rw[List.length_drop,List.length_drop,hl]);rw[List.drop_drop,List.drop_drop] at hs
  have hpart:∃p q,eZ P f.type xs f.offset=some p/\eZ P f.type ys f.offset=some q/\ll P d f.type p q=some (fJ eC ((xs.drop off).take k1.length) ((ys.drop off).take k1.length))/\EH P d f.type p=true:=by
   rw[hoff]
   rcases hrec _ _ hk1 with⟨k,rfl,hz,hq⟩ | ⟨hz,hq⟩
   ·obtain⟨z1,z2⟩:=ur hz;simp only[i7,i5,Nat.zero_add] at hle a1 b1 ⊢;obtain⟨x,hx⟩:∃x,xs[off]?=some x:=⟨xs[off],jp i4⟩;obtain⟨y,hy⟩:∃y,ys[off]?=some y:=⟨ys[off],jp i4⟩
    have ex:(xs.drop off).take 1=[x]:=by rw[List.take_one,List.head?_drop,hx];rfl
    have ey:(ys.drop off).take 1=[y]:=by rw[List.take_one,List.head?_drop,hy];rfl
    rw[ex] at a1;rw[ey] at b1;simp only[rK,Bool.and_true] at a1 b1;obtain⟨q1,q2⟩:=hq x y a1 b1;refine⟨x,y,?_,?_,?_,q2⟩
    ·unfold eZ;rw[z1];exact hx
    ·unfold eZ;rw[z1];exact hy
    ·rw[ex,ey,q1];simp only[fJ,Bool.and_true]
   ·obtain⟨z1,z2⟩:=ur hz;obtain⟨q1,q2⟩:=hq _ _ a1 b1;refine⟨_,_,?_,?_,q1,q2⟩
    ·unfold eZ;rw[z1];simp only;rw[z2,m7,fc (by simp only;omega),an]
    ·unfold eZ;rw[z1];simp only;rw[z2,m7,fc (by simp only;omega),an]
  obtain⟨p,q,g1,g2,g3,g4⟩:=hpart;refine⟨?_,?_⟩
  ·unfold eqFields;rw[hnm,au,g1,g2];simp only;rw[g3,hs];cases fJ eC ((xs.drop off).take k1.length) ((ys.drop off).take k1.length)
   ·rfl
   ·simp only[Bool.true_and];exact ih1
  ·unfold om;rw[hnm,g1];simp only;rw[g4,ih2];rfl
def yf:∀(d:Nat) (t:TypeId) (ks:List Kd),flatK P d t=some ks->EqAt P d t ks
 | 0,t,ks,h=>by simp[flatK] at h
 | d+1,t,ks,h=>by
  unfold flatK at h;split at h
  ·rename_i hu hz;cases h;refine .inl ⟨.b,rfl,hz,λx y hx hy=>?_⟩
   cases x<;>first | (simp[L9] at hx;done) | skip
   cases y<;>first | (simp[L9] at hy;done) | skip
   rename_i a b;constructor
   ·unfold ll;rw[hu];simp only[eC];cases a<;>cases b<;>rfl
   ·unfold EH;rw[hu]
  ·rename_i k hu hz;cases h;refine .inl ⟨.i k,rfl,hz,λx y hx hy=>?_⟩
   cases x<;>first | (simp[L9] at hx;done) | skip
   cases y<;>first | (simp[L9] at hy;done) | skip
   rename_i k1 a k2 b;simp only[L9] at hx hy
   have e1:k=k1:=by cases k<;>cases k1<;>first | rfl | cases hx
   have e2:k=k2:=by cases k<;>cases k2<;>first | rfl | cases hy
   subst e1;subst e2;constructor
   ·unfold ll;rw[hu];simp only[eC,hx,an,Bool.true_and]
   ·unfold EH;rw[hu]
  ·rename_i hu hz;cases h;refine .inl ⟨.s,rfl,hz,λx y hx hy=>?_⟩
   cases x<;>first | (simp[L9] at hx;done) | skip
   cases y<;>first | (simp[L9] at hy;done) | skip
   constructor
   ·unfold ll;rw[hu];rfl
   ·unfold EH;rw[hu]
  ·rename_i fs n hu hz;cases hst:P.stoodInHeld t
   ·rw[hst,au] at h;obtain⟨ks',hk,h⟩:=ul h;obtain⟨hn,h⟩:=aH h;cases h;have hn:=cV hn;subst hn;refine .inr ⟨hz,λxs ys hx hy=>?_⟩;have l1:=yq hx;have l2:=yq hy;obtain⟨r1,r2⟩:=Bj (yf d) hk xs ys i4 i4 hx hy;constructor
    ·unfold ll;rw[hu];simp only;rw[hst,au];exact r1
    ·unfold EH;rw[hu];exact r2
   ·rw[hst] at h;cases h
  ·cases h
def uV{K:Type}[DecidableEq K]{t:TypeId}{ks:List Kd}{cells:K->List AV}(hf:flatK P 4 t=some ks)(ha:(G5 P t).map (·.2)=some true)(hk:∀a,rK ks (cells a)=true)(he:∀a b,fJ eC (cells a) (cells b)=decide (a=b))(hfl:∀a,(cells a).all mE=true):Keys P t λa=>.agg (cells a):=by
 have key:∀a b,ll P 4 t (.agg (cells a)) (.agg (cells b))=some (decide (a=b))/\EH P 4 t (.agg (cells a))=true:=by
  intro a b
  rcases yf 4 t ks hf with⟨k,rfl,hz,_⟩ | ⟨_,hq⟩
  ·rw[hz] at ha;cases ha
  ·rw[<-he a b];exact hq _ _ (hk a) (hk b)
 refine⟨λa b=>(key a b).1,λa=>(key a a).2,λa=>?_⟩;unfold stays Da;show((cells a).all mE&&gK 3 (.agg (cells a)) (.agg (cells a)))=true;rw[hfl a,b7];refine KU _ _ ?_
 have:∀l:List AV,l.all mE=true->fJ (gK 2) l l=true:=by
  intro l
  induction l with
  | nil=>intro _;rfl
  | cons x l ih=>
   intro h;rw[cg,ac] at h;show(gK 2 x x&&fJ (gK 2) l l)=true;rw[ih h.2,cn]
   cases x<;>first | (cases h.1;done) | exact HB _ _ | exact KV _ _ _ | exact Bg _ _
 exact this _ (hfl a)
def sK{t:TypeId}{ks:List Kd}{xs ys:List AV}{b:Bool}(hg:P.eqGuardType P.depth t=false)(hf:flatK P 8 t=some ks)(ha:(G5 P t).map (·.2)=some true)(hx:rK ks xs=true)(hy:rK ks ys=true)(he:fJ eC xs ys=b):dk P .eql t (.agg xs) (.agg ys)=some (.bool b):=by
 have:ll P 8 t (.agg xs) (.agg ys)=some b:=by
  rcases yf 8 t ks hf with⟨k,rfl,hz,_⟩ | ⟨_,hq⟩
  ·rw[hz] at ha;cases ha
  ·rw[<-he];exact(hq _ _ hx hy).1
 show cond (P.eqGuardType P.depth t) none ((ll P 8 t (.agg xs) (.agg ys)).map AV.bool)=_;rw[hg,au,this];rfl
end
mutual
def fo(r:Nat->Nat):SV->SV
 | .any=>.any
 | .a v=>.a v
 | .sl n e cs=>.sl n e cs
 | .im ks vs=>.im ks vs
 | .ip cs=>.ip cs
 | .ptr o off=>.ptr (r o) off
 | .map o=>.map (r o)
 | .buf o n e c=>.buf (r o) n e c
 | .sub o off n e c=>.sub (r o) off n e c
 | .e0 e=>.e0 e
 | .ag cs=>.ag (mM r cs)
 | .cA cs=>.cA (mM r cs)
 | .fn g a b=>.fn g (mM r a) (mM r b)
 | .iface t v=>.iface t (fo r v)
def mM(r:Nat->Nat):List SV->List SV
 | []=>[]
 | d::ds=>fo r d::mM r ds
end
def Qu(r:Nat->Nat):Fm->Fm
 | []=>[]
 | (d,v)::f=>(d,fo r v)::Qu r f
def pJ(r:Nat->Nat):SO->SO
 | .cells cs=>.cells (mM r cs)
 | .map ks vs b=>.map ks (mM r vs) b
 | .iter m bs c pos=>.iter (fo r m) bs c pos
 | .oB ks vs bs c pos=>.oB ks vs bs c pos
 | .gone=>.gone
 | .loop c ls p f=>.loop c ls p (Qu r f)
 | .mf N=>.mf N
def jN(os:List Nat)(B i:Nat):Nat:=match os[i]? with
 | some o=>o
 | none=>B+(i-os.length)
mutual
def dF(B:Nat):SV->Bool
 | .ptr o _=>decide (o<B)
 | .map o=>decide (o<B)
 | .buf o _ _ _=>decide (o<B)
 | .sub o _ _ _ _=>decide (o<B)
 | .ag cs=>iG B cs
 | .cA cs=>iG B cs
 | .fn _ a b=>iG B a&&iG B b
 | .iface _ v=>dF B v
 | _=>true
def iG(B:Nat):List SV->Bool
 | []=>true
 | d::ds=>dF B d&&iG B ds
end
def Ey(B:Nat):Fm->Bool
 | []=>true
 | (_,v)::f=>dF B v&&Ey B f
def mz(B:Nat):SO->Bool
 | .cells cs=>iG B cs
 | .map _ vs _=>iG B vs
 | .iter m _ _ _=>dF B m
 | .oB _ _ _ _ _=>true
 | .gone=>true
 | .loop _ _ _ f=>Ey B f
 | .mf _=>true
def uG(B:Nat):List SO->Bool
 | []=>true
 | s::l=>mz B s&&uG B l
def mI:List Nat->SV->SV
 | [],v=>v
 | k::ks,v=>mI ks (aO k v)
def nT:List Nat->Fm->Fm
 | [],f=>f
 | k::ks,f=>nT ks (bZ k f)
def fR:List Nat->List SO->List SO
 | [],S=>S
 | k::ks,S=>fR ks (cy k S)
def gw:List SO->List Nat->List SO->List SO
 | S,[],ss=>S++ss
 | S,o::os,s::ss=>gw (S.set o s) os ss
 | S,_::_,[]=>S
section
variable {θ θ':Nat->Loc} {ρ ρ0 ρ':jY} {P:Program} {h0:En} {h h1:H} {S S' S0:List SO}
mutual
def VS.rn(r:Nat->Nat):∀{v:SV} {x:AV},VS θ ρ (fo r v) x↔VS (λp=>θ (r p)) ρ v x
 | .any,_=>by rw[fo,VS,VS]
 | .a v,x=>by rw[fo,VS,VS]
 | .sl n e cs,x=>by rw[fo,VS,VS]
 | .im ks vs,x=>by rw[fo,VS,VS]
 | .ip cs,x=>by rw[fo,VS,VS]
 | .ptr p _,_=>by rw[fo,VS,VS]
 | .map p,_=>by rw[fo,VS,VS]
 | .buf p _ _ _,_=>by rw[fo,VS,VS]
 | .sub p _ _ _ _,_=>by rw[fo,VS,VS]
 | .e0 _,_=>by rw[fo,VS,VS]
 | .ag cs,x=>by rw[fo,VS,VS];exact exists_congr λ_=>and_congr_right λ_=>db.rn r
 | .cA cs,x=>by rw[fo,VS,VS];exact exists_congr λ_=>and_congr_right λ_=>db.rn r
 | .fn g f c,x=>by rw[fo,VS,VS];exact exists_congr λ_=>exists_congr λ_=>and_congr_right λ_=>and_congr (db.rn r) (db.rn r)
 | .iface t v,x=>by rw[fo,VS,VS];exact exists_congr λ_=>and_congr_right λ_=>VS.rn r
def db.rn(r:Nat->Nat):∀{ds:List SV} {aS:List AV},db θ ρ (mM r ds) aS↔db (λp=>θ (r p)) ρ ds aS
 | [],aS=>by rw[mM,bl,bl]
 | d::ds,aS=>by rw[mM,aN,aN];exact exists_congr λ_=>exists_congr λ_=>and_congr_right λ_=>and_congr (VS.rn r) (db.rn r)
end
def xc(r:Nat->Nat):∀(f:Fm) (i:Nat),aJ (Qu r f) i=fo r (aJ f i)
 | [],i=>by rw[show aJ [] i=.any from rfl,fo];rfl
 | (d,v)::f,i=>by
  show(if d=i then fo r v else aJ (Qu r f) i)=fo r (if d=i then v else aJ f i);rw[xc r f i];by_cases h:d=i
  ·rw[ut h,ut h]
  ·rw[v6 h,v6 h]
def Ez{B:Nat}:∀{f:Fm} {i:Nat},Ey B f=true->dF B (aJ f i)=true
 | [],i,_=>by rw[show aJ ([]:Fm) i=.any from rfl];simp[dF]
 | (d,v)::f,i,h=>by
  rw[Ey,ac] at h;show dF B (if d=i then v else aJ f i)=true;by_cases e:d=i
  ·rw[ut e];exact h.1
  ·rw[v6 e];exact Ez h.2
def nd.rn(r:Nat->Nat){L:Loc}{so:SO}:nd θ ρ h L (pJ r so)↔nd (λp=>θ (r p)) ρ h L so:=by
 cases so with
 | cells cs=>exact exists_congr λ_=>and_congr_right λ_=>and_congr_left λ_=>db.rn r
 | map ks vs b=>exact exists_congr λ_=>exists_congr λ_=>and_congr_right λ_=>and_congr_right λ_=>db.rn r
 | iter m bs c pos=>exact exists_congr λ_=>and_congr_left λ_=>VS.rn r
 | oB ks vs bs c pos=>exact Iff.rfl
 | gone=>exact Iff.rfl
 | loop c ls p f=>exact and_congr_right λ_=>and_congr_right λ_=>forall_congr' λi=>forall_congr' λ_=>by rw[xc];exact VS.rn r
 | mf N=>exact Iff.rfl
def e7{r:Nat->Nat}{so:SO}:pJ r so≠.gone↔so≠.gone:=by
 cases so<;>simp[pJ]
mutual
def VS.lj{B:Nat}(hθ:∀q,q<B->(θ' q).id=(θ q).id):∀{v:SV} {x:AV},dF B v=true->VS θ ρ v x->VS θ' ρ v x
 | .any,_,_,_=>by rw[VS];trivial
 | .a v,x,_,h=>by rw[VS] at h ⊢;exact h
 | .sl n e cs,x,_,h=>by rw[VS] at h ⊢;exact h
 | .im ks vs,x,_,h=>by rw[VS] at h ⊢;exact h
 | .ip cs,x,_,h=>by rw[VS] at h ⊢;exact h
 | .ptr p _,_,hn,h=>by rw[VS] at h ⊢;rw[dF] at hn;rw[hθ p (ww hn)];exact h
 | .map p,_,hn,h=>by rw[VS] at h ⊢;rw[dF] at hn;rw[hθ p (ww hn)];exact h
 | .buf p _ _ _,_,hn,h=>by rw[VS] at h ⊢;rw[dF] at hn;rw[hθ p (ww hn)];exact h
 | .sub p _ _ _ _,_,hn,h=>by rw[VS] at h ⊢;rw[dF] at hn;rw[hθ p (ww hn)];exact h
 | .e0 e,x,_,h=>by rw[VS] at h ⊢;exact h
 | .ag cs,x,hn,h=>by rw[VS] at h ⊢;rw[dF] at hn;obtain⟨aS,h1,h2⟩:=h;exact⟨aS,h1,db.lj hθ hn h2⟩
 | .cA cs,x,hn,h=>by rw[VS] at h ⊢;rw[dF] at hn;obtain⟨aS,h1,h2⟩:=h;exact⟨aS,h1,db.lj hθ hn h2⟩
 | .fn g f c,x,hn,h=>by
  rw[VS] at h ⊢;rw[dF,ac] at hn;obtain⟨xs,ys,h1,h2,h3⟩:=h;exact⟨xs,ys,h1,db.lj hθ hn.1 h2,db.lj hθ hn.2 h3⟩
 | .iface t v,x,hn,h=>by rw[VS] at h ⊢;rw[dF] at hn;obtain⟨y,h1,h2⟩:=h;exact⟨y,h1,VS.lj hθ hn h2⟩
def db.lj{B:Nat}(hθ:∀q,q<B->(θ' q).id=(θ q).id):∀{ds:List SV} {aS:List AV},iG B ds=true->db θ ρ ds aS->db θ' ρ ds aS
 | [],aS,_,h=>by rw[bl] at h ⊢;exact h
 | d::ds,aS,hn,h=>by
  rw[aN] at h ⊢;rw[iG,ac] at hn;obtain⟨a,r,h1,h2,h3⟩:=h;exact⟨a,r,h1,VS.lj hθ hn.1 h2,db.lj hθ hn.2 h3⟩
end
def nd.lj{B:Nat}(hθ:∀q,q<B->(θ' q).id=(θ q).id){L:Loc}{so:SO}(hn:mz B so=true)(hx:nd θ ρ h L so):nd θ' ρ h L so:=by
 cases so with
 | cells cs=>obtain⟨aS,h1,h2,h3⟩:=hx;exact⟨aS,h1,h2.lj hθ hn,h3⟩
 | map ks vs b=>obtain⟨l,c,h1,h2,h3⟩:=hx;exact⟨l,c,h1,h2,h3.lj hθ hn⟩
 | iter m bs c pos=>obtain⟨kI,h1,h2⟩:=hx;exact⟨kI,h1.lj hθ hn,h2⟩
 | oB ks vs bs c pos=>exact hx
 | gone=>trivial
 | loop c ls p f=>
  obtain⟨h1,h2,h3⟩:=hx;exact⟨h1,h2,λi hi=>(h3 i hi).lj hθ (Ez hn)⟩
 | mf N=>exact hx
def EA{B:Nat}:∀{S:List SO} {i:Nat} {so:SO},uG B S=true->S[i]?=some so->mz B so=true
 | [],i,so,_,h=>by simp at h
 | s::l,0,so,hb,h=>by rw[uG,ac] at hb;simp only[ax,qr] at h;subst h;exact hb.1
 | s::l,i+1,so,hb,h=>by rw[uG,ac] at hb;exact EA hb.2 (by simpa using h)
def G6(θ:Nat->Loc):List Nat->(Nat->Loc)->Nat->Loc
 | [],_=>θ
 | k::ks,θ'=>G6 (gA θ k (θ' k)) ks θ'
def xo:∀{ks:List Nat} {θ:Nat->Loc} {p:Nat},(p∈ks\/θ p=θ' p)->G6 θ ks θ' p=θ' p
 | [],θ,p,h=>by rcases h with h | h;(· simp at h);(· exact h)
 | k::ks,θ,p,h=>by
  rw[G6];by_cases e:p=k
  ·subst e;exact xo (.inr (cI _ _ _))
  ·rcases h with h | h
   ·rcases t7 h with h | h
    ·exact un h e
    ·exact xo (.inl h)
   ·exact xo (.inr (by rw[cj _ _ e];exact h))
def G7:∀{ks:List Nat} {θ:Nat->Loc} {p:Nat},p∉ks->G6 θ ks θ' p=θ p
 | [],θ,p,h=>rfl
 | k::ks,θ,p,h=>by
  rw[G6,G7 (λe=>h (b6 _ e)),cj _ _ (λe=>h (by rw[e];exact b8))]
def Fk:∀{ks:List Nat} {θ:Nat->Loc} {v:SV} {x:AV},VS θ ρ v x->VS (G6 θ ks θ') ρ (mI ks v) x
 | [],θ,v,x,h=>h
 | k::ks,θ,v,x,h=>by
  rw[G6,mI];exact Fk (iQ (θ':=gA θ k (θ' k)) (λp hp=>cj _ _ hp) h)
def x9:∀(ks:List Nat) (f:Fm) (i:Nat),aJ (nT ks f) i=mI ks (aJ f i)
 | [],f,i=>rfl
 | k::ks,f,i=>by rw[nT,mI,x9 ks,ew]
def jg:∀(ks:List Nat) (S:List SO),(fR ks S).length=S.length
 | [],S=>rfl
 | k::ks,S=>by rw[fR,jg ks];unfold cy;rw[aW]
def Lf{f g:SV->SV}(so:SO):sq f (sq g so)=sq (λv=>f (g v)) so:=by cases so<;>simp[sq]
def yz:∀(ks:List Nat) (S:List SO) (p:Nat),(fR ks S)[p]?=(S[p]?).map (sq (mI ks))
 | [],S,p=>by
  show S[p]?=_
  cases S[p]? with
  | none=>rfl
  | some s=>rw[m6];exact rc some (tu s).symm
 | k::ks,S,p=>by
  rw[fR,yz ks,re]
  cases S[p]? with
  | none=>rfl
  | some s=>simp only[m6,Lf];rfl
def BT:∀{os:List Nat} {S ss:List SO} (p:Nat),os.Nodup->(∀o∈os,o<S.length)->os.length<=ss.length->
 (∀i:Nat,os[i]?=some p->(gw S os ss)[p]?=ss[i]?)/\(p∉os->p<S.length->(gw S os ss)[p]?=S[p]?)/\(S.length<=p->(gw S os ss)[p]?=ss[os.length+(p-S.length)]?)
 | [],S,ss,p,_,_,_=>by
  refine⟨λi h=>by simp at h,λ_ hl=>?_,λhl=>?_⟩
  ·rw[gw,List.getElem?_append_left hl]
  ·rw[gw,a9 hl,i5,bb]
 | o::os,S,[],p,_,_,hl=>by simp at hl
 | o::os,S,s::ss,p,hn,ho,hl=>by
  rw[List.nodup_cons] at hn;have ih:=BT (os:=os) (S:=S.set o s) (ss:=ss) p hn.2 (λx hx=>by rw[cM];exact ho x (b6 _ hx)) (by simpa using hl);have hol:=ho o b8;rw[cM] at ih;refine⟨λi h=>?_,λh1 h2=>?_,λh1=>?_⟩
  ·cases i with
   | zero=>
    simp only[ax,qr] at h;subst h;rw[gw,ih.2.1 hn.1 hol,ay hol];rfl
   | succ i=>
    simp only[ap] at h;rw[gw,ih.1 i h];rfl
  ·rw[gw,ih.2.1 (λe=>h1 (b6 _ e)) h2,a0 (λe=>h1 (by rw[e];exact b8))]
  ·rw[gw,ih.2.2 h1,i7,show os.length+1+(p-S.length)=os.length+(p-S.length)+1 by omega,ap]
def SC(P:Program)(g:FuncId)(args:List SV)(S0:List SO)(mv:List Nat)(Q:SV->List SO->Prop):Prop:=
 ∀(E:En) θ ρ h avs,E.h={ h with low:=h.next }->RS θ ρ ρ E E.h S0->db θ ρ args avs->
  dZ P (.func g) avs h (λv h'=>∃r S' θ' ρ' h1,Q r S'/\h'={ h1 with low:=gO h.low h1.low }/\RS θ' ρ ρ' E h1 S'/\VS θ' ρ' r v/\S0.length<=S'.length/\∀i,i<S0.length->i∉mv->(θ' i).id=(θ i).id)
end
end
end Go.Ev
