/- Lemmas of this claim, each with its conditions. -/
import Derived.Test.YtjiejanfnnieaaaGreatJ2
import Derived.Test.YtjiejanfnnieaaaGreatProg
set_option linter.all false
open Nat (beq ble blt)
open Int (ofNat)
open List (mem_map)
open Nat renaming beq_refl -> aa, lt_of_lt_of_le -> aj, mul_le_mul_right -> ba, le_trans -> bc, zero_add -> bd, zero_le -> be, min_eq_left -> bi, le_refl -> bw, lt_succ_self -> bL, zero_mul -> b0, lt_irrefl -> ce, le_succ_of_le -> cp, sub_zero -> cN, sub_self -> d0, succ_mul -> d2
open Bool renaming and_eq_true -> ac, and_self -> ad, not_false -> a0, true_and -> b9, true_or -> co, and_true -> ct, or_false -> du
open List renaming map_cons -> am, getElem?_cons_succ -> ap, getElem?_cons_zero -> ax, getElem?_set_self -> ay, length_map -> a3, getElem?_set_ne -> a4, drop_drop -> a5, eraseIdx_cons_succ -> a6, getElem?_map -> a7, getElem?_eq_none -> a8, length_replicate -> a9, getElem?_append_right -> bb, length_drop -> bh, take_zero -> bk, drop_of_length_le -> br, map_append -> bt, map_nil -> bv, drop_zero -> b7, mem_cons_of_mem -> b8, mem_cons_self -> cb, drop_take -> cc, take_take -> cd, take_of_length_le -> ch, length_take -> ci, all_cons -> cl, getElem?_append -> cn, eraseIdx_nil -> cv, flatMap_cons -> cH, head?_drop -> c0, length_set -> c5, nil_append -> c6, mapM_cons -> dc, replicate -> dd, take_one -> dv
open And renaming intro -> bg
open Go.Proofs.Tryz renaming prog -> b6
namespace Go.Ev
noncomputable section
def ui:AV->SV
 | .agg cs=>.ag (cs.map .a)
 | v=>.a v
def cR:SV->Option (List SV)
 | .any=>none
 | .ag cs=>some cs
 | .a (.agg cs)=>some (cs.map .a)
 | v=>some [v]
def eB:SV->Bool
 | .any=>false
 | .a v=>jU v
 | .ag _=>false
 | .cx _=>false
 | _=>true
def aM(o:Nat)(v:SV):SV:=cond (names o v) .any v
def bX(o:Nat)(f:Fm):Fm:=f.map λp=>(p.1,aM o p.2)
def bF(o:Nat):SO->SO
 | .cells cs=>.cells (cs.map (aM o))
 | .map ks vs b=>.map ks (vs.map (aM o)) b
 | .iter m bs c pos=>.iter (aM o m) bs c pos
 | .oE ks vs bs c pos=>.oE ks vs bs c pos
 | .gone=>.gone
 | .loop c ls p f=>.loop c ls p (bX o f)
 | .ml N=>.ml N
def eP(f:Fm):Operand->Option SV
 | .tmp i=>if i<1000000 then some (aK f i) else none
 | .const v=>(lO mG v).map ui
 | .func g=>some (.fn g [] [])
 | .global _=>none
def pO(f:Fm):List Operand->Option (List SV)
 | []=>some []
 | x::l=>(eP f x).bind λa=>(pO f l).map λb=>a::b
def lG(f:Fm):List (Nat×Operand)->Option (List (Nat×SV))
 | []=>some []
 | (i,x)::l=>(eP f x).bind λa=>(lG f l).map λb=>(i,a)::b
def wO(f:Fm):Option Operand->Option (Option AV)
 | none=>some none
 | some x=>match eP f x with
  | some (.a v)=>some (some v)
  | _=>none
def ql{α:Type}(p:Prop)[Decidable p](x:Option α):Option α:=if p then x else none
def Hc(P:Program)(t:TypeId):Option (Nat×Bool):=(qy P t).bind λb=>(cD P t).map λn=>(n,b)
def HU(P:Program)(s:TypeId)(f:Nat):Option (Nat×TypeId×Nat):=match P.underlying s with
 | some (.struct fs)=>cond (fs.toList.all λf=>(cD P f.type).isSome) ((fs[f]?).bind λfd=>(cD P fd.type).map λn=>(fd.offset,fd.type,n)) none
 | _=>none
def Po(P:Program)(t:TypeId):Option (Option Nat):=match P.underlying t with
 | some (.struct fs)=>cond (fs.toList.all λf=>(cD P f.type).isSome) (some none) none
 | some (.array _ e)=>(cD P e).map some
 | _=>none
def HL(P:Program)(t:TypeId):Option (TypeId×Nat):=match P.underlying t with
 | some (.slice e)=>(cD P e).map λs=>(e,s)
 | _=>none
def QY(P:Program)(t:TypeId):Option (Nat×TypeId×Nat):=match P.underlying t with
 | some (.array n e)=>(cD P e).map λs=>(n,e,s)
 | _=>none
inductive TK where
 | str | sl | map | other
def iT(P:Program)(t:TypeId):TK:=match P.underlying t with
 | some .string=>.str
 | some (.slice _)=>.sl
 | some (.map _ _)=>.map
 | _=>.other
def tM(P:Program)(t:TypeId)(cs:List SV)(off:Nat):Option SV:=(Hc P t).bind λq=>match q.2 with
 | true=>ql (off+q.1<=cs.length) (some (.ag ((cs.drop off).take q.1)))
 | false=>cs[off]?
def tn(place:Nat->Option (Nat×Nat))(cells:List SV):List (Nat×SV)->Option (List SV)
 | []=>some cells
 | (i,v)::rest=>match place i with
  | none=>none
  | some (off,size)=>(cR v).bind λcs=>
   ql (cs.length=size/\off+size<=cells.length) (tn place (cells.take off++(cs++cells.drop (off+size))) rest)
def Cx(P:Program)(t:TypeId)(parts:List (Nat×SV)):Option SV:=
 (dm P t).bind λz=>(Po P t).bind λq=>match q with
  | none=>(tn (λi=>(HU P t i).map λq=>(q.1,q.2.2)) (z.cells.map .a) parts).map .ag
  | some s=>(tn (λi=>some (i*s,s)) (z.cells.map .a) parts).map .ag
def nu(P:Program)(t:TypeId)(len:Nat)(parts:List (Nat×SV)):Option (Nat×List SV):=
 (HL P t).bind λq=>(dm P q.1).bind λz=>
  ql (len*q.2<=16777216/\z.cells.length=q.2/\q.2≠0)
   ((tn (λi=>some (i*q.2,q.2)) ((rep z.cells len).map .a) parts).map λcs=>(q.2,cs))
mutual
def cT:SV->Option AV
 | .a v=>some v
 | .ag cs=>(iQ cs).map .agg
 | .iface t v=>(cT v).map (.iface t)
 | _=>none
def iQ:List SV->Option (List AV)
 | []=>some []
 | d::ds=>(cT d).bind λa=>(iQ ds).map λb=>a::b
end
def Ih:SV->Option Nat
 | .a v=>di v
 | _=>none
def tv(P:Program)(kt:TypeId)(k:AV):List AV->Nat->Option (Option Nat)
 | [],_=>some none
 | e::es,i=>match lu P 4 kt k e with
  | some true=>some (some i)
  | some false=>tv P kt k es (i+1)
  | none=>none
def Az(S:List SO):SV->Option (List AV×List SV)
 | .map o=>match S[o]? with
  | some (.map ks vs _)=>some (ks,vs)
  | _=>none
 | .im ks vs=>some (ks,vs)
 | .a (.map none)=>some ([],[])
 | _=>none
def jc(P:Program)(S:List SO)(t:TypeId)(x k:SV)(ok:Bool):Option SV:=
 (dy P t).bind λ(kt,et)=>(cT k).bind λk=>cond (wK P kt k)
  ((Az S x).bind λ(ks,vs)=>(tv P kt k ks 0).bind λr=>
   let v:Option (SV×Bool):=match r with
    | some i=>(vs[i]?).map λe=>(e,true)
    | none=>(dm P et).map λz=>(ui z,false)
   v.map λ(v,b)=>cond ok (.cx [v,.a (.bool b)]) v) none
def ik(P:Program)(S:List SO)(t:TypeId)(x k v:SV):Option (List SO):=
 (dy P t).bind λ(kt,_)=>(cT k).bind λk=>cond (wK P kt k)
  (
   match x with
   | .map o=>match S[o]? with
    | some (.map ks vs b)=>(tv P kt k ks 0).bind λr=>match r with
     | some i=>(ks[i]?).bind λk0=>cond (stays k k0) (some (S.set o (.map (ks.set i k) (vs.set i v) b))) none
     | none=>some (S.set o (.map (ks++[k]) (vs++[v]) (b.map λp=>(p.1++[p.2],p.2+1))))
    | _=>none
   | _=>none) none
def KY(P:Program)(S:List SO)(t:TypeId)(x k:SV):Option (List SO):=
 (dy P t).bind λ(kt,_)=>(cT k).bind λk=>cond (wK P kt k)
  (
   match x with
   | .map o=>match S[o]? with
    | some (.map ks vs b)=>(tv P kt k ks 0).map λr=>match r with
     | some i=>S.set o (.map (ks.eraseIdx i) (vs.eraseIdx i) (b.map λp=>(p.1.eraseIdx i,p.2)))
     | none=>S
    | _=>none
   | _=>none) none
def yI(P:Program)(S:List SO)(t:TypeId)(x:SV):Option Nat:=match iT P t,x with
 | .str,.a (.str s)=>some s.length
 | .sl,.sl n _ _=>some n
 | .sl,.buf _ n _ _=>some n
 | .sl,.a (.slice none n _ _)=>some n
 | .map,x=>(Az S x).map λe=>e.1.length
 | .sl,.sub _ _ n _ _=>some n
 | .sl,.e0 _=>some 0
 | _,_=>none
def tX(S:List SO)(s:Nat):SV->Option (Nat×List SV)
 | .sl n e cs=>ql (e=s) (some (n,cs))
 | .buf o n e _=>match S[o]? with
  | some (.cells cs)=>ql (e=s/\n*s<=cs.length) (some (n,cs.take (n*s)))
  | _=>none
 | .a (.slice none 0 0 (some 0))=>some (0,[])
 | .sub o off n e _=>match S[o]? with
  | some (.cells cs)=>ql (e=s/\off+n*s<=cs.length) (some (n,(cs.drop off).take (n*s)))
  | _=>none
 | .e0 _=>some (0,[])
 | _=>none
def cA(o:Nat)(S:List SO):List SO:=S.map (bF o)
def dS(S:List SO)(so:SO):List SO:=cA S.length S++[bF S.length so]
def ph(P:Program)(e:TypeId):Bool:=match P.info? e with
 | some i=>ble i.bytes 10000
 | none=>false
def MB(S:List SO):SV->Option (SV×List SO×Option Nat)
 | .a (.slice none 0 0 (some 0))=>some (.a (.slice none 0 0 (some 0)),S,none)
 | .buf o n e c=>ql (n<=1000000) (some (.buf o n e c,S,none))
 | .e0 e=>some (.e0 e,S,none)
 | _=>none
def KF(S:List SO)(s:Nat)(x:SV)(p:Nat×List SV):Option (SV×List SO×Option Nat):=match x with
 | .a (.slice none 0 0 (some 0))=>some (.buf S.length p.1 s none,dS S (.cells p.2),some S.length)
 | .buf o n es none=>match S[o]? with
  | some (.cells cs)=>ql (es=s/\n<=1000000/\n*es<=cs.length)
   (some (.buf o (n+p.1) es none,(cA o S).set o (bF o (.cells (cs.take (n*es)++p.2))),some o))
  | _=>none
 | .e0 e=>ql (e=s) (some (.buf S.length p.1 s none,dS S (.cells p.2),some S.length))
 | .buf o n es (some c)=>match S[o]? with
  | some (.cells cs)=>ql (es=s/\n<=1000000/\n*es<=cs.length/\c<n+p.1)
   (some (.buf S.length (n+p.1) es none,dS S (.cells (cs.take (n*es)++p.2)),some S.length))
  | _=>none
 | _=>none
def isInt(P:Program)(t:TypeId):Bool:=match P.underlying t with
 | some (.int _)=>true
 | _=>false
def xw(P:Program)(S:List SO)(xt:TypeId)(s:Nat)(z:AV)(y:SV):Option (Nat×List SV):=match iT P xt with
 | .sl=>tX S s y
 | .other=>cond (isInt P xt) ((Ih y).bind λn=>ql (n<=1000000) (some (n,(rep z.cells n).map .a))) none
 | _=>none
def xd(P:Program)(S:List SO)(st xt:TypeId)(x y:SV):Option (SV×List SO×Option Nat):=
 (HL P st).bind λq=>(dm P q.1).bind λz=>ql (z.cells.length=q.2/\q.2≠0/\ph P q.1=true)
  ((xw P S xt q.2 z y).bind λp=>if p.1=0 then MB S x else ql (p.1<=1000000/\p.2.all eB=true) (KF S q.2 x p))
def AK(isMax:Bool):SV->List SV->Option SV
 | x,[]=>some x
 | .a x,.a y::l=>(yP isMax x y).bind λz=>AK isMax (.a z) l
 | _,_=>none
def SG:SV->Option (Nat×Nat×Nat×Nat)
 | .buf o n e _=>some (o,0,n,e)
 | .sub o off n e _=>some (o,off,n,e)
 | _=>none
def M5(S:List SO)(s o off des:Nat)(rows:List SV)(n:Nat):Option (SV×List SO×Option Nat):=
 if n=0 then some (.a (.int .i64 0),S,none) else match S[o]? with
  | some (.cells cs)=>ql (des=s/\off+n*s<=cs.length/\n*s<=rows.length/\(rows.take (n*s)).all eB=true)
   (some (.a (.int .i64 (n:Nat)),S.set o (.cells (cs.take off++(rows.take (n*s)++cs.drop (off+n*s)))),none))
  | _=>none
def JG(P:Program)(S:List SO)(t:TypeId)(x y:SV):Option (SV×List SO×Option Nat):=(HL P t).bind λq=>(SG x).bind λ(o,off,dl,des)=>(tX S q.2 y).bind λp=>
 M5 S q.2 o off des p.2 (Nat.min p.1 dl)
def CA(P:Program)(S:List SO)(t:TypeId)(x:SV):Option (SV×List SO×Option Nat):=(HL P t).bind λq=>(dm P q.1).bind λz=>(SG x).bind λ(o,off,n,es)=>
 if n=0 then some (.a lK,S,none) else match S[o]? with
  | some (.cells cs)=>ql (es=q.2/\z.cells.length=q.2/\off+n*q.2<=cs.length/\(rep z.cells n).all jU=true)
   (some (.a lK,S.set o (.cells (cs.take off++((rep z.cells n).map .a++cs.drop (off+n*q.2)))),none))
  | _=>none
def HB:SV->Option Nat
 | .a (.slice none 0 0 (some 0))=>some 0
 | .buf _ _ _ (some c)=>some c
 | .sub _ _ _ _ (some c)=>some c
 | .e0 _=>some 0
 | _=>none
def gI(P:Program)(S:List SO)(b:Builtin)(ats:List TypeId)(xs:List SV):Option (SV×List SO×Option Nat):=match b,ats,xs with
 | .append,st::xt::_,[x,y]=>xd P S st xt x y
 | .len,t::_,x::_=>(yI P S t x).map λ(n:Nat)=>((SV.a (.int .i64 (n:Int)),S,none):SV×List SO×Option Nat)
 | .min,_,x::l=>(AK false x l).map λv=>(v,S,none)
 | .max,_,x::l=>(AK true x l).map λv=>(v,S,none)
 | .delete,t::_,x::k::_=>(KY P S t x k).map λS=>(.a lK,S,none)
 | .copy,dt::_,[x,y]=>JG P S dt x y
 | .clear,t::_,[x]=>CA P S t x
 | .cap,t::_,[x]=>(HL P t).bind λ_=>(HB x).map λ(c:Nat)=>((SV.a (.int .i64 (c:Int)),S,none):SV×List SO×Option Nat)
 | _,_,_=>none
def J7:Option SV->Option SV->Option SV->Option SV
 | some (.a (.bool z)),some x,some y=>some (cond z x y)
 | _,_,_=>none
def yJ(P:Program)(S:List SO)(tt:TypeId):SV->Option SV
 | .ptr o off=>match S[o]? with
  | some (.cells cs)=>tM P tt cs off
  | _=>none
 | .ip cs=>tM P tt cs 0
 | _=>none
def Dv(P:Program)(S:List SO)(tt:TypeId)(a x:SV):Option (List SO):=match a with
 | .ptr o off=>match S[o]? with
  | some (.cells cs)=>(Hc P tt).bind λq=>(cR x).bind λvs=>
   ql (vs.length=q.1/\off+q.1<=cs.length/\vs.all eB=true) (some (S.set o (.cells (cs.take off++(vs++cs.drop (off+q.1))))))
  | _=>none
 | _=>none
def aR(P:Program):SV->Option SV
 | .ptr o off=>some (.ptr o off)
 | .ip cs=>some (.ip cs)
 | .fn g a b=>some (.fn g a b)
 | .sl n e cs=>some (.sl n e cs)
 | .buf o n e c=>some (.buf o n e c)
 | .sub o off n e c=>some (.sub o off n e c)
 | .e0 e=>some (.e0 e)
 | .a (.fn (.method nm) [.iface t v] ys)=>(jd P t nm).map λ_=>.a (.fn (.method nm) [.iface t v] ys)
 | _=>none
def po(P:Program)(s:TypeId)(x:SV)(f:Nat):Option SV:=(HU P s f).bind λq=>ql (q.2.2≠0) (match x with
 | .ptr o off=>some (.ptr o (off+q.1))
 | .ip cs=>ql (q.1<=cs.length) (some (.ip (cs.drop q.1)))
 | _=>none)
def yj(P:Program)(s:TypeId)(x:SV)(f:Nat):Option SV:=match x with
 | .ag cs=>(HU P s f).bind λq=>tM P q.2.1 cs q.1
 | _=>none
def pD(P:Program)(t:TypeId)(x:SV)(i:SV):Option SV:=(Ih i).bind λi=>match QY P t with
 | some q=>ql (i<q.1) (match x with
  | .ptr o off=>some (.ptr o (off+i*q.2.2))
  | .ip cs=>ql (i*q.2.2<=cs.length) (some (.ip (cs.drop (i*q.2.2))))
  | _=>none)
 | none=>(HL P t).bind λq=>match x with
  | .sl n es cs=>ql (i<n/\q.2=es) (some (.ip ((cs.drop (i*q.2)).take q.2)))
  | .buf o n es _=>ql (i<n/\q.2=es) (some (.ptr o (i*q.2)))
  | .sub o off n es _=>ql (i<n/\q.2=es) (some (.ptr o (off+i*q.2)))
  | _=>none
def CT(P:Program)(t:TypeId)(x:SV)(i:SV):Option SV:=(Ih i).bind λi=>match x with
 | .ag cs=>(QY P t).bind λq=>ql (i<q.1) (tM P q.2.1 cs (i*q.2.2))
 | .a (.str s)=>match iT P t with
  | .str=>(s[i]?).map λb=>.a (.int .u8 (ofNat b))
  | _=>none
 | _=>none
def mX(P:Program)(t:TypeId)(x:SV)(lo hi mx:Option AV):Option SV:=match iT P t,x with
 | .str,.a (.str s)=>match mx with
  | some _=>none
  | none=>(cQ s.length (some s.length) lo hi none).map λ(l,hh,_)=>.a (.str ((s.drop l).take (hh-l)))
 | .sl,.sl n es cs=>match mx with
  | some m=>(HL P t).bind λq=>ql (lo=none/\hi.bind di=some 0/\di m=some 0/\q.2=es) (some (.e0 q.2))
  | none=>(HL P t).bind λq=>(cQ n none lo hi none).bind λ(l,hh,_)=>ql (q.2=es) (some (.sl (hh-l) q.2 ((cs.drop (l*q.2)).take ((hh-l)*q.2))))
 | .sl,.buf o n es c=>match mx with
  | some _=>none
  | none=>(HL P t).bind λq=>(cQ n c lo hi none).bind λ(l,hh,m)=>ql (q.2=es) (some (match lo with
   | none=>.buf o (hh-l) q.2 (bl m l)
   | some _=>.sub o (l*q.2) (hh-l) q.2 (bl m l)))
 | .sl,.sub o off n es c=>match mx with
  | some _=>none
  | none=>(HL P t).bind λq=>(cQ n c lo hi none).bind λ(l,hh,m)=>ql (q.2=es) (some (.sub o (off+l*q.2) (hh-l) q.2 (bl m l)))
 | .sl,.a (.slice none 0 0 (some 0))=>(HL P t).bind λ_=>(cQ 0 (some 0) lo hi mx).map λ_=>.a (.slice none 0 0 (some 0))
 | .sl,.e0 e=>(HL P t).bind λq=>(cQ 0 (some 0) lo hi mx).bind λ(l,hh,m)=>ql (l=0/\hh=0/\m=some 0/\q.2=e) (some (.e0 e))
 | _,_=>none
def JQ(P:Program)(t:TypeId):Bool:=match P.underlying t with
 | some (.interface _)=>false
 | some _=>true
 | none=>false
def dj(P:Program)(f:Fm)(S:List SO)(op:Op):Option (SV×List SO×Option Nat):=match op with
 | .move x=>(eP f x).map λv=>(v,S,none)
 | .assign x=>(eP f x).map λv=>(v,S,none)
 | .pick c a b=>(J7 (eP f c) (eP f a) (eP f b)).map λv=>(v,S,none)
 | .alloc e=>(dm P e).map λz=>(.ptr S.length 0,dS S (.cells (z.cells.map .a)),some S.length)
 | .box _ x=>(eP f x).bind λv=>(cR v).map λcs=>(.ptr S.length 0,dS S (.cells cs),some S.length)
 | .build tt ps=>(lG f ps.toList).bind λl=>(Cx P tt l).map λv=>(v,S,none)
 | .buildSlice tt n ps=>(lG f ps.toList).bind λl=>(nu P tt n l).map λq=>(.buf S.length n q.1 (some n),dS S (.cells q.2),some S.length)
 | .makeMap _ none=>some (.map S.length,dS S (.map [] [] none),some S.length)
 | .makeSlice tt l c=>match eP f l,eP f c with
  | some (.a l),some (.a c)=>(kn P tt l c).map λq=>(.buf S.length q.1 q.2.1 (some q.2.2.1),dS S (.cells (q.2.2.2.map .a)),some S.length)
  | _,_=>none
 | .load tt a=>(eP f a).bind λa=>(yJ P S tt a).map λv=>(v,S,none)
 | .store tt a x=>(eP f a).bind λa=>(eP f x).bind λx=>(Dv P S tt a x).map λS=>(.a lK,S,none)
 | .nilCheck x=>(eP f x).bind λx=>(aR P x).map λv=>(v,S,none)
 | .binOp op t x y _=>(eP f x).bind λx=>(eP f y).bind λy=>(cT x).bind λx=>(cT y).bind λy=>(dk P op t x y).map λv=>(.a v,S,none)
 | .unOp op _ x=>(eP f x).bind λx=>(cT x).bind λx=>(Sw op x).map λv=>(.a v,S,none)
 | .convert s d x=>(eP f x).bind λx=>(cT x).bind λx=>(mF P s d x).map λv=>(.a v,S,none)
 | .makeInterface t x=>cond (JQ P t) ((eP f x).map λv=>(.iface t v,S,none)) none
 | .makeFunc (.func g) first cap=>(pO f first.toList).bind λa=>(pO f cap.toList).map λb=>(.fn g a b,S,none)
 | .slice tt x lo hi mx=>(eP f x).bind λx=>(wO f lo).bind λlo=>(wO f hi).bind λhi=>(wO f mx).bind λmx=>(mX P tt x lo hi mx).map λv=>(v,S,none)
 | .fieldAddr s x fl=>(eP f x).bind λx=>(po P s x fl).map λv=>(v,S,none)
 | .field s x fl=>(eP f x).bind λx=>(yj P s x fl).map λv=>(v,S,none)
 | .indexAddr t x i=>(eP f x).bind λx=>(eP f i).bind λi=>(pD P t x i).map λv=>(v,S,none)
 | .index t x i=>(eP f x).bind λx=>(eP f i).bind λi=>(CT P t x i).map λv=>(v,S,none)
 | .lookup t x k ok=>(eP f x).bind λx=>(eP f k).bind λk=>(jc P S t x k ok).map λv=>(v,S,none)
 | .mapUpdate t m k x=>(eP f m).bind λm=>(eP f k).bind λk=>(eP f x).bind λx=>(ik P S t m k x).map λS=>(.a lK,S,none)
 | .insert t m k x=>(eP f m).bind λm=>(eP f k).bind λk=>(eP f x).bind λx=>(ik P S t m k x).map λS=>(.a lK,S,none)
 | .extract x i=>match eP f x with
  | some (.cx vs)=>(vs[i]?).map λv=>(v,S,none)
  | _=>none
 | .call { callee:=.builtin b,args:=aS,argTypes:=ats }=>(pO f aS.toList).bind λxs=>gI P S b ats.toList xs
 | .makeFunc (.method nm) first cap=>(pO f first.toList).bind λa=>(iQ a).bind λa=>(pO f cap.toList).bind λb=>(iQ b).map λb=>(.a (.fn (.method nm) a b),S,none)
 | _=>none
def jJ(k:Option Nat)(v:SV):SV:=match k with
 | none=>v
 | some o=>aM o v
def lB(f:Fm)(kill:Option Nat):Fm:=match kill with
 | none=>f
 | some o=>bX o f
def pz(f:Fm)(kill:Option Nat)(dst:Option Tmp)(v:SV):Fm:=match dst with
 | none=>lB f kill
 | some d=>(d,v)::lB f kill
section
variable {θ:Nat->Loc} {ρ:j6} {P:Program}
theorem c9.a:∀(aS:List AV),c9 θ ρ (aS.map .a) aS
 | []=>by rw[bv,bj]
 | a::aS=>by rw[am,aN];exact⟨a,aS,rfl,by rw[VS],c9.a aS⟩
def zy(v:AV):VS θ ρ (ui v) v:=by
 unfold ui;split
 ·rw[VS];exact⟨_,rfl,c9.a _⟩
 ·rw[VS]
variable{f:Fm}{af:Nat->AV}{n:Nat}{wv:Nat->AV}{v:SV}
def bP(hF:FR θ ρ (aK f) af n wv){x:Operand}(h:eP f x=some v):∃a,ev (ei af n) x=some a/\VS θ ρ v a:=by
 cases x with
 | tmp i=>
  simp only[eP] at h
  have hlim:i<1000000:=by
   apply Decidable.byContradiction;intro hn;rw[v6 hn] at h;cases h
  rw[ut hlim] at h;cases h;have:=hF.v i;by_cases hi:i<n
  ·rw[ut hi] at this;exact⟨_,RN hi,this⟩
  ·rw[v6 hi,hF.u i hlim] at this
   exact⟨lK,by
    have:(ei af n).get i=none:=zF af n i (Nat.le_of_not_lt hi)
    simp only[ev,this],this⟩
 | const c=>
  simp only[eP] at h;obtain⟨a,ha,rfl⟩:=az h;exact⟨a,ha,zy a⟩
 | func g=>
  simp only[eP,qr] at h;subst h;exact⟨_,PG,by rw[VS];exact⟨[],[],rfl,by rw[bj],by rw[bj]⟩⟩
 | global g=>simp[eP] at h
def ma{f:Fm}{af:Nat->AV}{n:Nat}{wv:Nat->AV}(hF:FR θ ρ (aK f) af n wv):∀{l:List Operand} {vs:List SV},pO f l=some vs->∃aS,AA (ei af n) l=some aS/\c9 θ ρ vs aS
 | [],vs,h=>by
  simp only[pO,qr] at h;subst h;exact⟨[],rfl,by rw[bj]⟩
 | x::l,vs,h=>by
  rw[pO] at h;obtain⟨v,hv,h⟩:=ul h;obtain⟨ws,hw,rfl⟩:=az h;obtain⟨a,ha,ka⟩:=bP hF hv;obtain⟨aS,hs,ks⟩:=ma hF hw;exact⟨a::aS,by rw[Nj,ha,hs];rfl,by rw[aN];exact⟨a,aS,rfl,ka,ks⟩⟩
def SS(θ:Nat->Loc)(ρ:j6):List (Nat×SV)->List (Nat×AV)->Prop
 | [],aS=>aS=[]
 | (i,v)::l,aS=>∃a r,aS=(i,a)::r/\VS θ ρ v a/\SS θ ρ l r
def vy{f:Fm}{af:Nat->AV}{n:Nat}{wv:Nat->AV}(hF:FR θ ρ (aK f) af n wv):∀{l:List (Nat×Operand)} {vs:List (Nat×SV)},lG f l=some vs->∃aS,lF (ei af n) l=some aS/\SS θ ρ vs aS
 | [],vs,h=>by
  simp only[lG,qr] at h;subst h;exact⟨[],rfl,rfl⟩
 | (i,x)::l,vs,h=>by
  rw[lG] at h;obtain⟨v,hv,h⟩:=ul h;obtain⟨ws,hw,rfl⟩:=az h;obtain⟨a,ha,ka⟩:=bP hF hv;obtain⟨aS,hs,ks⟩:=vy hF hw;exact⟨(i,a)::aS,by rw[F2,ha,hs];rfl,a,aS,rfl,ka,ks⟩
def Dt(hF:FR θ ρ (aK f) af n wv){o:Option Operand}{v:Option AV}(h:wO f o=some v):Ni (ei af n) o=some v:=by
 cases o with
 | none=>simp only[wO,qr] at h;subst h;rfl
 | some x=>
  simp only[wO] at h;split at h
  ·rename_i w hw;cases h;obtain⟨a,ha,ka⟩:=bP hF hw;rw[VS] at ka;subst ka;simp only[Ni,ha,m6]
  ·cases h
def cells_one{v:AV}(h:∀cs,v≠.agg cs):v.cells=[v]:=by
 cases v<;>first | rfl | exact un rfl (h _)
variable{x:AV}{cs:List SV}
def uO(hv:VS θ ρ v x)(h:cR v=some cs):c9 θ ρ cs x.cells:=by
 have one:∀{w:SV},VS θ ρ w x->(∀cs,x≠.agg cs)->c9 θ ρ [w] x.cells:=by
  intro w hw hx;rw[cells_one hx,aN];exact⟨x,[],rfl,hw,by rw[bj]⟩
 cases v with
 | any=>simp[cR] at h
 | a v=>
  have hv':=hv;rw[VS] at hv;subst hv
  cases x with
  | agg cs'=>simp only[cR,qr] at h;subst h;exact c9.a _
  | _=>simp only[cR,qr] at h;subst h;exact one hv' (λ_ h=>by cases h)
 | ag cs'=>
  simp only[cR,qr] at h;subst h;rw[VS] at hv;obtain⟨aS,rfl,h2⟩:=hv;exact h2
 | sl n e cs'=>
  simp only[cR,qr] at h;subst h;refine one hv ?_;rw[VS,GS] at hv
  rcases hv with⟨_,_,o,e',c,rfl,_,_⟩ | ⟨id,off,cap,row,rfl,_⟩<;>exact λ_ h=>by cases h
 | im ks vs=>
  simp only[cR,qr] at h;subst h;refine one hv ?_;rw[VS,GS] at hv;obtain⟨id,l,c,rfl,_⟩:=hv
  exact λ_ h=>by cases h
 | ip cs'=>
  simp only[cR,qr] at h;subst h;refine one hv ?_;rw[VS,GS] at hv;obtain⟨id,off,row,r,rfl,_⟩:=hv
  exact λ_ h=>by cases h
 | ptr o off=>
  simp only[cR,qr] at h;subst h;refine one hv ?_
  rw[VS] at hv;subst hv;exact λ_ h=>by cases h
 | map o=>
  simp only[cR,qr] at h;subst h;refine one hv ?_
  rw[VS] at hv;subst hv;exact λ_ h=>by cases h
 | buf o n e c=>
  simp only[cR,qr] at h;subst h;refine one hv ?_
  rw[VS] at hv;subst hv;exact λ_ h=>by cases h
 | sub o off n e c=>
  simp only[cR,qr] at h;subst h;refine one hv ?_
  rw[VS] at hv;subst hv;exact λ_ h=>by cases h
 | e0 e=>
  simp only[cR,qr] at h;subst h;refine one hv ?_
  rw[VS] at hv;obtain⟨o,e',rfl,_⟩:=hv;exact λ_ h=>by cases h
 | cx vs=>
  simp only[cR,qr] at h;subst h;refine one hv ?_
  rw[VS] at hv;obtain⟨aS,rfl,_⟩:=hv;exact λ_ h=>by cases h
 | fn g a b=>
  simp only[cR,qr] at h;subst h;refine one hv ?_
  rw[VS] at hv;obtain⟨aS,bs,rfl,_⟩:=hv;exact λ_ h=>by cases h
 | iface t v=>
  simp only[cR,qr] at h;subst h;refine one hv ?_
  rw[VS] at hv;obtain⟨y,rfl,_⟩:=hv;exact λ_ h=>by cases h
def Ql(hv:VS θ ρ v x)(h:eB v=true):jU x=true:=by
 cases v with
 | any=>simp[eB] at h
 | a v=>rw[VS] at hv;subst hv;exact h
 | ag cs=>simp[eB] at h
 | cx cs=>simp[eB] at h
 | sl n e cs=>rw[VS,GS] at hv;rcases hv with⟨_,_,o,e',c,rfl,_,_⟩ | ⟨id,off,cap,row,rfl,_⟩<;>rfl
 | im ks vs=>rw[VS,GS] at hv;obtain⟨id,l,c,rfl,_⟩:=hv;rfl
 | ip cs=>rw[VS,GS] at hv;obtain⟨id,off,row,r,rfl,_⟩:=hv;rfl
 | ptr o off=>rw[VS] at hv;subst hv;rfl
 | map o=>rw[VS] at hv;subst hv;rfl
 | buf o n e c=>rw[VS] at hv;subst hv;rfl
 | sub o off n e c=>rw[VS] at hv;subst hv;rfl
 | e0 e=>rw[VS] at hv;obtain⟨o,e',rfl,_⟩:=hv;rfl
 | fn g a b=>rw[VS] at hv;obtain⟨aS,bs,rfl,_⟩:=hv;rfl
 | iface t v=>rw[VS] at hv;obtain⟨y,rfl,_⟩:=hv;rfl
def mf:∀{vs:List SV} {xs:List AV},c9 θ ρ vs xs->vs.all eB=true->xs.all jU=true
 | [],xs,hv,_=>by rw[bj] at hv;subst hv;rfl
 | d::ds,xs,hv,h=>by
  rw[aN] at hv;obtain⟨a,r,rfl,h1,h2⟩:=hv;rw[cl,ac] at h ⊢;exact⟨Ql h1 h.1,mf h2 h.2⟩
def cm{α:Type}{p:Prop}[Decidable p]{x:Option α}{y:α}(h:ql p x=some y):p/\x=some y:=by
 unfold ql at h;split at h
 ·rename_i hp;exact⟨hp,h⟩
 ·cases h
variable{t:TypeId}
def uC{q:Nat×Bool}(h:Hc P t=some q):qy P t=some q.2/\cD P t=some q.1:=by
 unfold Hc at h;obtain⟨b,hb,h⟩:=ul h;obtain⟨n,hn,rfl⟩:=az h;exact⟨hb,hn⟩
def uX{s:TypeId}{f:Nat}{q:Nat×TypeId×Nat}(h:HU P s f=some q):∃fs fd,P.underlying s=some (.struct fs)/\fs.toList.all (λf=>(cD P f.type).isSome)=true/\fs[f]?=some fd/\cD P fd.type=some q.2.2/\fd.offset=q.1/\fd.type=q.2.1:=by
 unfold HU at h;split at h
 ·rename_i fs hu;obtain⟨hb,h⟩:=aI h;obtain⟨fd,hfd,h⟩:=ul h;obtain⟨n,hn,rfl⟩:=az h;exact⟨fs,fd,hu,hb,hfd,hn,rfl,rfl⟩
 ·cases h
def gi{q:TypeId×Nat}(h:HL P t=some q):P.underlying t=some (.slice q.1)/\cD P q.1=some q.2:=by
 unfold HL at h;split at h
 ·rename_i e hu;obtain⟨n,hn,rfl⟩:=az h;exact⟨hu,hn⟩
 ·cases h
def EB{q:Nat×TypeId×Nat}(h:QY P t=some q):P.underlying t=some (.array q.1 q.2.1)/\cD P q.2.1=some q.2.2:=by
 unfold QY at h;split at h
 ·rename_i n e hu;obtain⟨s,hs,rfl⟩:=az h;exact⟨hu,hs⟩
 ·cases h
def yH(h:iT P t=.str):P.underlying t=some .string:=by
 unfold iT at h
 split at h<;>first | assumption | cases h
def pF(h:iT P t=.sl):∃e,P.underlying t=some (.slice e):=by
 unfold iT at h
 split at h<;>first | exact⟨_,by assumption⟩ | cases h
def NF(h:iT P t=.map):∃k e,P.underlying t=some (.map k e):=by
 unfold iT at h
 split at h<;>first | exact⟨_,_,by assumption⟩ | cases h
variable{aS:List AV}
def tN(hv:c9 θ ρ cs aS){off:Nat}(h:tM P t cs off=some v):∃a,eZ P t aS off=some a/\VS θ ρ v a:=by
 unfold tM at h;obtain⟨q,hq,h⟩:=ul h;obtain⟨h1,h2⟩:=uC hq;obtain⟨n,b⟩:=q;unfold eZ;simp only at h1 h2 h;rw[h1];cases b
 ·exact hv.get h
 ·simp only at h ⊢;obtain⟨hle,h⟩:=cm h;cases h;rw[h2,m7,hv.length,fc hle,ak];exact⟨_,rfl,by rw[VS];exact⟨_,rfl,(hv.drop off).take n⟩⟩
variable{h:H}{id:Nat}
def BH(hr:rS h.aW id=some aS)(t:TypeId)(off:Nat):h.load P t id off=eZ P t aS off:=by
 unfold H.load eZ H.chunk;unfold rS at hr
 cases ho:h.aW.get id with
 | none=>rw[ho] at hr;cases hr
 | some ob=>
  rw[ho] at hr
  cases ob with
  | cells cs bV=>
   have hr:some cs=some aS:=hr;cases hr
   cases qy P t with
   | none=>rfl
   | some b=>
    cases b
    ·rfl
    ·simp only
     cases cD P t with
     | none=>rfl
     | some n=>simp only[m7];cases ble (off+n) aS.length<;>rfl
  | ro cs=>
   have hr:some cs=some aS:=hr;cases hr
   cases qy P t with
   | none=>rfl
   | some b=>
    cases b
    ·rfl
    ·simp only
     cases cD P t with
     | none=>rfl
     | some n=>simp only[m7];cases ble (off+n) aS.length<;>rfl
  | _=>cases hr
def LF{row:List AV}{off r k:Nat}(hl:off+r<=row.length){v:AV}(h:eZ P t ((row.drop off).take r) k=some v):eZ P t row (off+k)=some v:=by
 unfold eZ at h ⊢;split at h
 ·obtain⟨n,hn,h⟩:=ul h;obtain⟨hb,h⟩:=aI h;cases h;have hb:=md hb;rw[ci,bh] at hb;rw[hn,m7,fc (show off+k+n<=row.length by omega),ak,cc,cd,a5,bi i4]
 ·rw[List.getElem?_take] at h;split at h
  ·rw[List.getElem?_drop] at h;exact h
  ·cases h
 ·cases h
def tp{place:Nat->Option (Nat×Nat)}:∀{parts:List (Nat×SV)} {ps:List (Nat×AV)} {cells:List SV} {aS:List AV} {out:List SV},SS θ ρ parts ps->c9 θ ρ cells aS->tn place cells parts=some out->∃o,jW place aS ps=some o/\c9 θ ρ out o
 | [],ps,cells,aS,out,hp,hc,h=>by
  have hp:ps=[]:=hp;subst hp;simp only[tn,qr] at h;subst h;exact⟨aS,rfl,hc⟩
 | (i,v)::l,ps,cells,aS,out,hp,hc,h=>by
  obtain⟨a,r,rfl,h1,h2⟩:=hp;simp only[tn] at h;simp only[jW];split at h
  ·cases h
  ·rename_i off size hpl;rw[hpl];simp only;obtain⟨cs,hcs,h⟩:=ul h;obtain⟨⟨hb1,hb2⟩,h⟩:=cm h;have k:=uO h1 hcs;subst hb1;rw[k.length,hc.length,aa,fc hb2,ad,ak];exact tp h2 ((hc.take off).app (k.app (hc.drop _))) h
def vI{p q:Nat->Option (Nat×Nat)}(hpq:∀i,(p i).isSome=true->q i=p i):∀{ps:List (Nat×AV)} {aS o:List AV},jW p aS ps=some o->jW q aS ps=some o
 | [],aS,o,h=>h
 | (i,v)::l,aS,o,h=>by
  simp only[jW] at h ⊢
  cases hp:p i with
  | none=>rw[hp] at h;cases h
  | some x=>
   obtain⟨off,size⟩:=x;rw[hpq i (by rw[hp];rfl),hp];rw[hp] at h;simp only at h ⊢;obtain⟨hb,h⟩:=aI h;rw[hb,ak];exact vI hpq h
def KL{parts:List (Nat×SV)}{ps:List (Nat×AV)}(hp:SS θ ρ parts ps)(h:Cx P t parts=some v):∃a,uN P t ps=some a/\VS θ ρ v a:=by
 unfold Cx at h;unfold uN;obtain⟨z,hz,h⟩:=ul h;obtain⟨q,hq,h⟩:=ul h;rw[hz,m7];unfold Po at hq;split at hq
 ·rename_i fs hu;obtain⟨hb,hq⟩:=aI hq;cases hq;simp only at h;obtain⟨o,ho,rfl⟩:=az h;obtain⟨w,hw,kw⟩:=tp hp (c9.a z.cells) ho
  have hw:=vI (q:=vp P fs) (λi hi=>by
   cases hf:HU P t i with
   | none=>rw[hf] at hi;cases hi
   | some q=>
    obtain⟨fs',fd,e1,_,e3,e4,e5,_⟩:=uX hf;rw[hu] at e1;cases e1;unfold vp
    rw[e3,m7,e4,m6,e5];rfl) hw
  rw[hu];simp only;rw[hb,ak,hw];exact⟨_,rfl,by rw[VS];exact⟨_,rfl,kw⟩⟩
 ·rename_i n e hu;obtain⟨s,hs,rfl⟩:=az hq;simp only at h;obtain⟨o,ho,rfl⟩:=az h;obtain⟨w,hw,kw⟩:=tp hp (c9.a z.cells) ho;rw[hu];simp only;rw[hs,m7,hw];exact⟨_,rfl,by rw[VS];exact⟨_,rfl,kw⟩⟩
 ·cases hq
def xW{len:Nat}{parts:List (Nat×SV)}{ps:List (Nat×AV)}(hp:SS θ ρ parts ps){q:Nat×List SV}(h:nu P t len parts=some q):∃cs,gH P t len ps=some (q.1,cs)/\c9 θ ρ q.2 cs:=by
 unfold nu at h;unfold gH;obtain⟨el,hel,h⟩:=ul h;obtain⟨z,hz,h⟩:=ul h;obtain⟨⟨b1,b2,b3⟩,h⟩:=cm h;obtain⟨o,ho,rfl⟩:=az h;obtain⟨hu,hs⟩:=gi hel;obtain⟨w,hw,kw⟩:=tp hp (c9.a (rep z.cells len)) ho
 have hb0:beq el.2 0=false:=by
  cases hb:beq el.2 0
  ·rfl
  ·exact un (cU hb) b3
 rw[hu];simp only;rw[hs,m7,hz,m7,fc b1,b2,aa,hb0];simp only[a0,ad,ak];rw[hw];exact⟨w,rfl,kw⟩
mutual
def jD:∀{v:SV} {x a:AV},VS θ ρ v x->cT v=some a->x=a
 | .a v,x,a,hv,h=>by rw[VS] at hv;rw[cT] at h;cases h;exact hv
 | .ag cs,x,a,hv,h=>by
  rw[VS] at hv;rw[cT] at h;obtain⟨aS,rfl,h2⟩:=hv;obtain⟨bs,hb,rfl⟩:=az h;rw[ox h2 hb]
 | .any,_,_,_,h=>by simp[cT] at h
 | .sl _ _ _,_,_,_,h=>by simp[cT] at h
 | .im _ _,_,_,_,h=>by simp[cT] at h
 | .ip _,_,_,_,h=>by simp[cT] at h
 | .ptr _ _,_,_,_,h=>by simp[cT] at h
 | .map _,_,_,_,h=>by simp[cT] at h
 | .buf _ _ _ _,_,_,_,h=>by simp[cT] at h
 | .sub _ _ _ _ _,_,_,_,h=>by simp[cT] at h
 | .e0 _,_,_,_,h=>by simp[cT] at h
 | .cx _,_,_,_,h=>by simp[cT] at h
 | .fn _ _ _,_,_,_,h=>by simp[cT] at h
 | .iface t v,x,a,hv,h=>by
  rw[VS] at hv;rw[cT] at h;obtain⟨y,rfl,h2⟩:=hv;obtain⟨b,hb,rfl⟩:=az h;rw[jD h2 hb]
def ox:∀{vs:List SV} {xs aS:List AV},c9 θ ρ vs xs->iQ vs=some aS->xs=aS
 | [],xs,aS,hv,h=>by rw[bj] at hv;rw[iQ] at h;cases h;exact hv
 | d::ds,xs,aS,hv,h=>by
  rw[aN] at hv;rw[iQ] at h;obtain⟨a,r,rfl,h1,h2⟩:=hv;obtain⟨b,hb,h⟩:=ul h;obtain⟨bs,hbs,rfl⟩:=az h;rw[jD h1 hb,ox h2 hbs]
end
def tw{kt:TypeId}{k:AV}:∀(l:List (AV×AV×Nat)) (i:Nat),gM P kt k l i=tv P kt k (l.map (·.1)) i
 | [],_=>rfl
 | e::l,i=>by
  rw[am];unfold gM tv
  cases lu P 4 kt k e.1 with
  | none=>rfl
  | some b=>
   cases b
   ·exact tw l (i+1)
   ·rfl
def C5{b:Bool}:∀{l:List SV} {x:SV} {xa:AV} {aS:List AV} {v:SV},VS θ ρ x xa->c9 θ ρ l aS->AK b x l=some v->∃a,nA b xa aS=some a/\VS θ ρ v a
 | [],x,xa,aS,v,hx,hl,h=>by
  rw[bj] at hl;subst hl
  have:v=x:=by
   cases x<;>simp only[AK,qr] at h<;>exact h.symm
  subst this;exact⟨xa,rfl,hx⟩
 | y::l,x,xa,aS,v,hx,hl,h=>by
  rw[aN] at hl;obtain⟨ya,r,rfl,h1,h2⟩:=hl
  cases x with
  | a x=>
   cases y with
   | a y=>
    rw[VS] at hx h1;subst hx;subst h1;simp only[AK] at h;obtain⟨z,hz,h⟩:=ul h;obtain⟨w,hw,kw⟩:=C5 (x:=.a z) (xa:=z) (by rw[VS]) h2 h;exact⟨w,by simp only[nA,hz,m7];exact hw,kw⟩
   | _=>simp[AK] at h
  | _=>simp[AK] at h
end
section
variable {θ θ':Nat->Loc} {ρ ρ0:j6} {P:Program}
mutual
def VS.ids(hθ:∀p,(θ' p).id=(θ p).id):∀{v:SV} {x:AV},VS θ ρ v x->VS θ' ρ v x
 | .any,_,_=>by rw[VS];trivial
 | .a v,x,h=>by rw[VS] at h ⊢;exact h
 | .sl n e cs,x,h=>by rw[VS] at h ⊢;exact h
 | .im ks vs,x,h=>by rw[VS] at h ⊢;exact h
 | .ip cs,x,h=>by rw[VS] at h ⊢;exact h
 | .ptr p _,_,h=>by rw[VS] at h ⊢;rw[hθ p];exact h
 | .map p,_,h=>by rw[VS] at h ⊢;rw[hθ p];exact h
 | .buf p _ _ _,_,h=>by rw[VS] at h ⊢;rw[hθ p];exact h
 | .sub p _ _ _ _,_,h=>by rw[VS] at h ⊢;rw[hθ p];exact h
 | .e0 e,x,h=>by rw[VS] at h ⊢;exact h
 | .ag cs,x,h=>by rw[VS] at h ⊢;obtain⟨aS,h1,h2⟩:=h;exact⟨aS,h1,c9.ids hθ h2⟩
 | .cx cs,x,h=>by rw[VS] at h ⊢;obtain⟨aS,h1,h2⟩:=h;exact⟨aS,h1,c9.ids hθ h2⟩
 | .fn g f c,x,h=>by rw[VS] at h ⊢;obtain⟨xs,ys,h1,h2,h3⟩:=h;exact⟨xs,ys,h1,c9.ids hθ h2,c9.ids hθ h3⟩
 | .iface t v,x,h=>by rw[VS] at h ⊢;obtain⟨y,h1,h2⟩:=h;exact⟨y,h1,VS.ids hθ h2⟩
def c9.ids(hθ:∀p,(θ' p).id=(θ p).id):∀{ds:List SV} {aS:List AV},c9 θ ρ ds aS->c9 θ' ρ ds aS
 | [],aS,h=>by rw[bj] at h ⊢;exact h
 | d::ds,aS,h=>by
  rw[aN] at h ⊢;obtain⟨a,r,h1,h2,h3⟩:=h;exact⟨a,r,h1,VS.ids hθ h2,c9.ids hθ h3⟩
end
variable{o:Nat}{v:SV}{x:AV}
def iS(hθ:∀p,p≠o->θ' p=θ p)(h:VS θ ρ v x):VS θ' ρ (aM o v) x:=by
 unfold aM;cases hn:names o v
 ·exact h.uj hθ hn
 ·rw[ak,VS];trivial
def c9.map{g:SV->SV}(hg:∀v x,VS θ ρ v x->VS θ' ρ (g v) x):∀{ds:List SV} {aS:List AV},c9 θ ρ ds aS->c9 θ' ρ (ds.map g) aS
 | [],aS,h=>by rw[bj] at h;rw[bv,bj];exact h
 | d::ds,aS,h=>by
  rw[aN] at h;rw[am,aN];obtain⟨a,r,h1,h2,h3⟩:=h;exact⟨a,r,h1,hg _ _ h2,c9.map hg h3⟩
def ez(o:Nat):∀(f:Fm) (i:Nat),aK (bX o f) i=aM o (aK f i)
 | [],i=>rfl
 | (d,v)::f,i=>by
  show(if d=i then aM o v else aK (bX o f) i)=aM o (if d=i then v else aK f i);rw[ez o f i];by_cases h:d=i
  ·rw[ut h,ut h]
  ·rw[v6 h,v6 h]
def sF(g:SV->SV):SO->SO
 | .cells cs=>.cells (cs.map g)
 | .map ks vs b=>.map ks (vs.map g) b
 | .iter m bs c pos=>.iter (g m) bs c pos
 | .oE ks vs bs c pos=>.oE ks vs bs c pos
 | .gone=>.gone
 | .loop c ls p f=>.loop c ls p (f.map λq=>(q.1,g q.2))
 | .ml N=>.ml N
def Bq(g:SV->SV):∀(f:Fm) (i:Nat),aK (f.map λq=>(q.1,g q.2)) i=g (aK f i)\/aK (f.map λq=>(q.1,g q.2)) i=.any
 | [],i=>.inr rfl
 | (d,v)::f,i=>by
  show(if d=i then g v else aK (f.map λq=>(q.1,g q.2)) i)=g (if d=i then v else aK f i)\/(if d=i then g v else aK (f.map λq=>(q.1,g q.2)) i)=.any;by_cases h:d=i
  ·rw[ut h,ut h];exact .inl rfl
  ·rw[v6 h,v6 h];exact Bq g f i
def ND(o:Nat):bF o=sF (aM o):=by funext so;cases so<;>rfl
def tI(so:SO):sF (λv=>v) so=so:=by cases so<;>simp[sF]
variable{so:SO}
def BL{g:SV->SV}(h:sF g so≠.gone):so≠.gone:=by intro e;subst e;exact h rfl
def ni.map{g:SV->SV}(hg:∀v x,VS θ ρ v x->VS θ' ρ (g v) x){h h':H}{L:Loc}{so:SO}(hx:ni θ ρ h L so)(ho:h'.aW.get L.id=h.aW.get L.id)(hf:h'.dC.get L.bV=h.dC.get L.bV):ni θ' ρ h' L (sF g so):=by
 cases so with
 | cells cs=>obtain⟨aS,h1,h2,h3⟩:=hx;exact⟨aS,by rw[ho];exact h1,h2.map hg,by rw[hf];exact h3⟩
 | map ks vs b=>obtain⟨l,c,h1,h2,h3⟩:=hx;exact⟨l,c,by rw[ho];exact h1,h2,h3.map hg⟩
 | iter m bs c pos=>obtain⟨kL,h1,h2⟩:=hx;exact⟨kL,hg _ _ h1,by rw[ho];exact h2⟩
 | oE ks vs bs c pos=>obtain⟨kL,l,h1,h2,h3,h4⟩:=hx;exact⟨kL,l,h1,h2,h3,by rw[ho];exact h4⟩
 | gone=>trivial
 | loop c ls p f=>
  obtain⟨h1,h2,h3⟩:=hx;refine⟨h1,by rw[ho];exact h2,λi hi=>?_⟩
  rcases Bq g f i with e | e
  ·rw[e];exact hg _ _ (h3 i hi)
  ·rw[e,VS];trivial
 | ml N=>exact⟨hx.1,by rw[ho];exact hx.2⟩
def xM.symm{L M:Loc}(h:xM L M):xM M L:=⟨h.xx.symm,h.yx.symm,h.xy.symm,h.yy.symm,h.f.symm⟩
variable{n:Nat}
def Es.mono{b:En}{m:Nat}{L:Loc}(h:Es b n L)(hn:n<=m):Es b m L:=⟨h.e,⟨h.x.1,by have:=h.x.2;omega⟩,⟨h.y.1,by have:=h.y.2;omega⟩,⟨h.f.1,by have:=h.f.2;omega⟩⟩
def gB(θ:Nat->Loc)(o:Nat)(L:Loc):Nat->Loc:=λp=>if p=o then L else θ p
def cF(θ:Nat->Loc)(o:Nat)(L:Loc):gB θ o L o=L:=ut rfl
def bY(θ:Nat->Loc){p:Nat}(L:Loc)(h:p≠o):gB θ o L p=θ p:=v6 h
variable{h0:En}{h:H}{S:List SO}{S':List SO}
def RS.Au{h':H}{so':SO}{L':Loc}{g:SV->SV}(hR:RS θ ρ0 ρ h0 h S)(hnx:h.next<=h'.next)(hob0:∀j,h0.pr j->h'.aW.get j=h.aW.get j)(hfm0:∀j,h0.pf j->h'.dC.get j=h.dC.get j)(hlw:h0.lo<=h'.low)(hln:h'.low<=h'.next)(hL:Es h0 h'.next L')
 (hg:∀v x,VS θ ρ v x->VS (gB θ o L') ρ (g v) x)
 (hob:∀p so,p≠o->S[p]?=some so->so≠.gone->h'.aW.get (θ p).id=h.aW.get (θ p).id/\h'.dC.get (θ p).bV=h.dC.get (θ p).bV/\xM (θ p) L')
 (hrow:∀id ob,ρ id=some ob->h'.aW.get id=h.aW.get id/\id≠L'.x/\id≠L'.y)
 (hnew:ni (gB θ o L') ρ h' L' so') (hS:∀p,p≠o->S'[p]?=(S[p]?).map (sF g)) (hSo:S'[o]?=some so'):RS (gB θ o L') ρ0 ρ h0 h' S':=by
 have other:∀p so,p≠o->S'[p]?=some so->so≠.gone->∃s,S[p]?=some s/\s≠.gone/\so=sF g s:=by
  intro p so hp h1 h2;rw[hS p hp] at h1;obtain⟨s,hs,rfl⟩:=az h1;exact⟨s,hs,BL h2,rfl⟩
 refine⟨hR.ok,bc hR.nx hnx,λj hj=>(hob0 j hj).trans (hR.ob j hj),λj hj=>(hfm0 j hj).trans (hR.fm j hj),hlw,hln,?_,?_,?_,hR.mu⟩
 ·intro p so h1 h2;by_cases hp:p=o
  ·subst hp;rw[hSo] at h1;cases h1;rw[cF];exact⟨hL,hnew⟩
  ·obtain⟨s,hs,hsg,rfl⟩:=other p so hp h1 h2;rw[bY _ _ hp];obtain⟨k1,k2⟩:=hR.obj p s hs hsg;obtain⟨q1,q2,_⟩:=hob p s hp hs hsg;exact⟨k1.mono hnx,k2.map hg q1 q2⟩
 ·intro p q so so' hpq h1 h2 h3 h4;by_cases hp:p=o
  ·subst hp;obtain⟨s,hs,hsg,rfl⟩:=other q so' (λe=>hpq e.symm) h3 h4;rw[cF,bY _ _ (λe=>hpq e.symm)];exact(hob q s (λe=>hpq e.symm) hs hsg).2.2.symm
  ·obtain⟨s,hs,hsg,rfl⟩:=other p so hp h1 h2;rw[bY _ _ hp];by_cases hq:q=o
   ·subst hq;rw[cF];exact(hob p s hp hs hsg).2.2
   ·obtain⟨s',hs',hsg',rfl⟩:=other q so' hq h3 h4;rw[bY _ _ hq];exact hR.sep p q s s' hpq hs hsg hs' hsg'
 ·intro id ob hi;obtain⟨k1,k2,k3⟩:=hR.row id ob hi;obtain⟨q1,q2,q3⟩:=hrow id ob hi;refine⟨aj k1 hnx,by rw[q1];exact k2,?_⟩;intro p so h1 h2;by_cases hp:p=o
  ·subst hp;rw[cF];exact⟨q2,q3⟩
  ·obtain⟨s,hs,hsg,rfl⟩:=other p so hp h1 h2;rw[bY _ _ hp];exact k3 p s hs hsg
def bq{α:Type}{l:List α}{i:Nat}{x:α}(h:l[i]?=some x):i<l.length:=(rt h).1
def rl(o:Nat)(S:List SO)(p:Nat):(cA o S)[p]?=(S[p]?).map (sF (aM o)):=by
 unfold cA;rw[ND,a7]
def RS.new{ob:AO}(hR:RS θ ρ0 ρ h0 h S)(hob:(∃cs aS,so=.cells cs/\ob=.cells aS h.next/\c9 θ ρ cs aS)\/(so=.map [] [] none/\ob=.map [] 0)):
 RS (gB θ S.length ⟨h.next,h.next,h.next,h.next⟩) ρ0 ρ h0 { h.lay h.next ob with next:=h.next+1 } (dS S so)/\∀v x,VS θ ρ v x->VS (gB θ S.length ⟨h.next,h.next,h.next,h.next⟩) ρ (aM S.length v) x:=by
 have hg:∀v x,VS θ ρ v x->VS (gB θ S.length ⟨h.next,h.next,h.next,h.next⟩) ρ (aM S.length v) x:=λv x hv=>iS (λp hp=>bY _ _ hp) hv;refine⟨?_,hg⟩;have hb:=hR.nx;have hpr:∀j,h0.pr j->j<h.next:=λj hj=>aj (hR.ok.pr j hj) hb;have hpf:∀j,h0.pf j->j<h.next:=λj hj=>aj (hR.ok.pf j hj) hb
 have hobj:∀j,j<h.next->({ h.lay h.next ob with next:=h.next+1 }:H).aW.get j=h.aW.get j:=by
  intro j hj
  rcases hob with⟨cs,aS,_,rfl,_⟩ | ⟨_,rfl⟩<;>exact bo _ _ i4
 have hfam:∀j,j<h.next->({ h.lay h.next ob with next:=h.next+1 }:H).dC.get j=h.dC.get j:=by
  intro j hj
  rcases hob with⟨cs,aS,_,rfl,_⟩ | ⟨_,rfl⟩
  ·exact bo _ _ i4
  ·rfl
 have hlow:({ h.lay h.next ob with next:=h.next+1 }:H).low=h.low:=by
  rcases hob with⟨cs,aS,_,rfl,_⟩ | ⟨_,rfl⟩<;>rfl
 refine hR.Au (g:=aM S.length) (so':=bF S.length so) (by show h.next<=h.next+1;omega) (λj hj=>hobj j (hpr j hj)) (λj hj=>hfam j (hpf j hj)) (by rw[hlow];exact hR.lw) (by rw[hlow];exact cp hR.ln) ⟨.inl rfl,⟨λhj=>ce _ (hpr _ hj),bL _⟩,⟨λhj=>ce _ (hpr _ hj),bL _⟩,⟨λhj=>ce _ (hpf _ hj),bL _⟩⟩ hg ?_ ?_ ?_ ?_ ?_
 ·intro p s hp hs hsg;obtain⟨⟨k1,k2,k3,k4⟩,_⟩:=hR.obj p s hs hsg;refine⟨hobj _ (by rcases k1 with e | e<;>omega),hfam _ k4.2,⟨?_,?_,?_,?_,?_⟩⟩<;>(simp only;omega)
 ·intro id ob' hi;have:=(hR.row id ob' hi).1;exact⟨hobj id this,by simp only;omega,by simp only;omega⟩
 ·rcases hob with⟨cs,aS,rfl,rfl,hv⟩ | ⟨rfl,rfl⟩
  ·exact⟨aS,cZ _ _ _,hv.map hg,cZ _ _ _⟩
  ·exact⟨[],0,cZ _ _ _,⟨rfl,⟨List.nodup_nil,λe he=>by simp at he⟩,λp hp=>by cases hp⟩,by rw[bv,bv,bj]⟩
 ·intro p hp;unfold dS
  have hl:(cA S.length S).length=S.length:=by unfold cA;rw[a3]
  rw[cn];split
  ·exact rl _ _ _
  ·rename_i hlt;rw[hl] at hlt ⊢;have:S[p]?=none:=a8 i4;rw[this,a8 (by simp;omega)];rfl
 ·unfold dS
  have hl:(cA S.length S).length=S.length:=by unfold cA;rw[a3]
  rw[bb i4,hl,d0];rfl
variable{id:Nat}
def pd{bV x y:Nat}(hf:h.dC.get bV=some (x,y)){j:Nat}(hj:j≠bV):(h.alone id bV).dC.get j=h.dC.get j:=by
 unfold H.alone;rw[hf];simp only;cases beq x id&&beq y id
 ·exact bo _ _ hj
 ·rfl
def nF{a b c:Nat}(h1:c<=a)(h2:c<=b):c<=gR a b:=by
 unfold gR;cases ble a b
 ·exact h2
 ·exact h1
def Bj{bV x y b:Nat}(hf:h.dC.get bV=some (x,y))(hx:b<=x)(hy:b<=y)(hb:b<=h.low)(hn:h.low<=h.next):b<=(h.alone id bV).low/\(h.alone id bV).low<=h.next:=by
 unfold H.alone;rw[hf];simp only;cases beq x id&&beq y id
 ·exact⟨nF hb (nF hx hy),bc (dN _ _).1 hn⟩
 ·exact⟨hb,hn⟩
def RS.store{h0:En}{h:H}{S:List SO}{o:Nat}{cs vs:List SV}{off:Nat}{xs:List AV}(hR:RS θ ρ0 ρ h0 h S)(hS:S[o]?=some (.cells cs))(hv:c9 θ ρ vs xs)(hone:xs.all jU=true)(hle:off+vs.length<=cs.length):
 ∃h',h.store (θ o).id off xs=some h'/\RS (gB θ o ⟨(θ o).id,(θ o).bV,(θ o).id,(θ o).id⟩) ρ0 ρ h0 h' (S.set o (.cells (cs.take off++(vs++cs.drop (off+vs.length)))))/\∀v x,VS θ ρ v x->VS (gB θ o ⟨(θ o).id,(θ o).bV,(θ o).id,(θ o).id⟩) ρ v x:=by
 have hg:∀v x,VS θ ρ v x->VS (gB θ o ⟨(θ o).id,(θ o).bV,(θ o).id,(θ o).id⟩) ρ v x:=λv x hv=>hv.ids λp=>by
  by_cases hp:p=o
  ·subst hp;rw[cF]
  ·rw[bY _ _ hp]
 obtain⟨⟨k1,k2,k3,k4⟩,aS,q1,q2,q3⟩:=hR.obj o _ hS gt;have a2:(h.alone (θ o).id (θ o).bV).next=h.next:=(sm (Z:=0) (id:=(θ o).id) q3 (be _) (be _) (be _)).2;have px:∀j,h0.pr j->j≠(θ o).x:=λj hj e=>k2.1 (e▸hj);have py:∀j,h0.pr j->j≠(θ o).y:=λj hj e=>k3.1 (e▸hj)
 have pi:∀j,h0.pr j->j≠(θ o).id:=λj hj=>by rcases k1 with e | e<;>rw[e];exact px j hj;exact py j hj
 have pfm:∀j,h0.pf j->j≠(θ o).bV:=λj hj e=>k4.1 (e▸hj)
 have lid:h0.lo<=(θ o).id:=by rcases k1 with e | e<;>rw[e];exact hR.ok.lo _ k2.1;exact hR.ok.lo _ k3.1
 have hidn:(θ o).id<h.next:=by rcases k1 with e | e<;>rw[e];exact k2.2;exact k3.2
 have al:=Bj (id:=(θ o).id) q3 (hR.ok.lo _ k2.1) (hR.ok.lo _ k3.1) hR.lw hR.ln;have hl:=q2.length;have hlx:=hv.length;refine⟨{ h.alone (θ o).id (θ o).bV with aW:=(h.alone (θ o).id (θ o).bV).aW.put (θ o).id (some (.cells (aS.take off++(xs++aS.drop (off+xs.length))) (θ o).bV)),low:=gR (h.alone (θ o).id (θ o).bV).low (θ o).id },?_,?_,hg⟩
 ·unfold H.store;rw[q1];simp only;rw[fc (show off+xs.length<=aS.length by omega),hone];rfl
 ·refine hR.Au (g:=λv=>v) (so':=.cells (cs.take off++(vs++cs.drop (off+vs.length)))) (by show h.next<=(h.alone _ _).next;omega) (λj hj=>?_) (λj hj=>pd q3 (pfm j hj)) (nF al.1 lid) ?_ ⟨.inl rfl,⟨λhj=>pi _ hj rfl,?_⟩,⟨λhj=>pi _ hj rfl,?_⟩,⟨k4.1,?_⟩⟩ hg ?_ ?_ ?_ ?_ ?_
  ·show(Tr.put _ _ _).get j=_;rw[bo _ _ (pi j hj)];exact j7 q3 (px j hj) (py j hj)
  ·show gR (h.alone _ _).low _<=(h.alone _ _).next;rw[a2];exact bc (dN _ _).1 al.2
  ·show(θ o).id<(h.alone _ _).next;rw[a2];exact hidn
  ·show(θ o).id<(h.alone _ _).next;rw[a2];exact hidn
  ·show(θ o).bV<(h.alone _ _).next;rw[a2];exact k4.2
  ·intro p s hp hs hsg;have sp:=hR.sep p o s _ hp hs hsg hS gt;obtain⟨⟨j1,j2,j3,j4⟩,_⟩:=hR.obj p s hs hsg
   have e1:(θ p).id≠(θ o).x:=by rcases j1 with e | e<;>rw[e];exact sp.xx;exact sp.yx
   have e2:(θ p).id≠(θ o).y:=by rcases j1 with e | e<;>rw[e];exact sp.xy;exact sp.yy
   refine⟨?_,pd q3 sp.f,⟨?_,?_,?_,?_,sp.f⟩⟩
   ·show(Tr.put _ _ _).get _=_;rw[bo _ _ (by rcases k1 with e | e<;>rw[e]<;>assumption)];exact j7 q3 e1 e2
   ·simp only;rcases k1 with e | e<;>rw[e];exact sp.xx;exact sp.xy
   ·simp only;rcases k1 with e | e<;>rw[e];exact sp.xx;exact sp.xy
   ·simp only;rcases k1 with e | e<;>rw[e];exact sp.yx;exact sp.yy
   ·simp only;rcases k1 with e | e<;>rw[e];exact sp.yx;exact sp.yy
  ·intro id ob hi;obtain⟨_,_,r3⟩:=hR.row id ob hi;obtain⟨e1,e2⟩:=r3 o _ hS gt
   have e3:id≠(θ o).id:=by rcases k1 with e | e<;>rw[e]<;>assumption
   refine⟨?_,e3,e3⟩;show(Tr.put _ _ _).get _=_;rw[bo _ _ e3];exact j7 q3 e1 e2
  ·refine⟨_,cZ _ _ _,?_,Bi q3⟩
   have hw:c9 θ ρ (cs.take off++(vs++cs.drop (off+vs.length))) (aS.take off++(xs++aS.drop (off+xs.length))):=by
    rw[hlx];exact(q2.take off).app (hv.app (q2.drop (off+vs.length)))
   have:=hw.map hg;rw[List.map_id'] at this;exact this
  ·intro p hp;rw[a4 (λe=>hp e.symm)]
   cases S[p]? with
   | none=>rfl
   | some s=>rw[m6,tI]
  ·rw[ay (bq hS)]
variable{vs:List SV}
def RS.R5{ks ks':List AV}{vs':List SV}{l':List (AV×AV×Nat)}{c':Nat}{b b':Option (List Nat×Nat)}(hR:RS θ ρ0 ρ h0 h S)(hS:S[o]?=some (.map ks vs b))(h1:Pb l' c' ks' b')(h2:c9 θ ρ vs' (l'.map (·.2.1))):
 RS θ ρ0 ρ h0 (h.set (θ o).id (.map l' c')) (S.set o (.map ks' vs' b')):=by
 obtain⟨⟨k1,k2,k3,k4⟩,l,c,q1,q2,q3⟩:=hR.obj o _ hS gt
 have heq:gB θ o (θ o)=θ:=by
  funext p;unfold gB;split
  ·rename_i e;rw[e]
  ·rfl
 have hg:∀v x,VS θ ρ v x->VS (gB θ o (θ o)) ρ v x:=λv x hv=>by rw[heq];exact hv
 have pi:∀j,h0.pr j->j≠(θ o).id:=λj hj e=>by rcases k1 with e' | e'<;>rw[e'] at e;exact k2.1 (e▸hj);exact k3.1 (e▸hj)
 have lid:h0.lo<=(θ o).id:=by rcases k1 with e | e<;>rw[e];exact hR.ok.lo _ k2.1;exact hR.ok.lo _ k3.1
 have:=hR.Au (g:=λv=>v) (h':=h.set (θ o).id (.map l' c')) (S':=S.set o (.map ks' vs' b')) (so':=.map ks' vs' b') (L':=θ o) (bw _) (λj hj=>bo _ _ (pi j hj)) (λj hj=>rfl) (nF hR.lw lid) (bc (dN _ _).1 hR.ln) ⟨k1,k2,k3,k4⟩ hg ?_ ?_ ?_ ?_ ?_
 ·rw[heq] at this;exact this
 ·intro p s hp hs hsg;have sp:=hR.sep p o s _ hp hs hsg hS gt;obtain⟨⟨j1,j2,j3,j4⟩,_⟩:=hR.obj p s hs hsg;refine⟨bo _ _ ?_,rfl,sp⟩
  rcases j1 with e | e<;>rcases k1 with e' | e'<;>rw[e,e']
  ·exact sp.xx
  ·exact sp.xy
  ·exact sp.yx
  ·exact sp.yy
 ·intro id ob hi;obtain⟨_,_,r3⟩:=hR.row id ob hi;obtain⟨e1,e2⟩:=r3 o _ hS gt;exact⟨bo _ _ (by rcases k1 with e | e<;>rw[e]<;>assumption),e1,e2⟩
 ·rw[heq];exact⟨l',c',cZ _ _ _,h1,h2⟩
 ·intro p hp;rw[a4 (λe=>hp e.symm)]
  cases S[p]? with
  | none=>rfl
  | some s=>rw[m6,tI]
 ·rw[ay (bq hS)]
variable{cs:List SV}{aS:List AV}
def RS.fork{xs:List AV}(hR:RS θ ρ0 ρ h0 h S)(hS:S[o]?=some (.cells cs))(hv:c9 θ ρ vs xs)(has:h.aW.get (θ o).id=some (.cells aS (θ o).bV))(hle:n<=cs.length):
 (h.alone (θ o).id (θ o).bV).next=h.next/\RS (gB θ o ⟨h.next,(θ o).bV,(θ o).id,h.next⟩) ρ0 ρ h0 (h.en (θ o).id (θ o).bV (aS.take n) ((aS.drop 0).take n++xs)) ((cA o S).set o (bF o (.cells (cs.take n++vs))))/\∀v x,VS θ ρ v x->VS (gB θ o ⟨h.next,(θ o).bV,(θ o).id,h.next⟩) ρ (aM o v) x:=by
 have hg:∀v x,VS θ ρ v x->VS (gB θ o ⟨h.next,(θ o).bV,(θ o).id,h.next⟩) ρ (aM o v) x:=λv x hv=>iS (λp hp=>bY _ _ hp) hv;obtain⟨⟨k1,k2,k3,k4⟩,as',q1,q2,q3⟩:=hR.obj o _ hS gt;rw[has] at q1;cases q1;have a2:(h.alone (θ o).id (θ o).bV).next=h.next:=(sm (Z:=0) (id:=(θ o).id) q3 (be _) (be _) (be _)).2;have px:∀j,h0.pr j->j≠(θ o).x:=λj hj e=>k2.1 (e▸hj);have py:∀j,h0.pr j->j≠(θ o).y:=λj hj e=>k3.1 (e▸hj)
 have pi:∀j,h0.pr j->j≠(θ o).id:=λj hj=>by rcases k1 with e | e<;>rw[e];exact px j hj;exact py j hj
 have pfm:∀j,h0.pf j->j≠(θ o).bV:=λj hj e=>k4.1 (e▸hj)
 have lid:h0.lo<=(θ o).id:=by rcases k1 with e | e<;>rw[e];exact hR.ok.lo _ k2.1;exact hR.ok.lo _ k3.1
 have hidn:(θ o).id<h.next:=by rcases k1 with e | e<;>rw[e];exact k2.2;exact k3.2
 have al:=Bj (id:=(θ o).id) q3 (hR.ok.lo _ k2.1) (hR.ok.lo _ k3.1) hR.lw hR.ln;have hid:(θ o).id<h.next:=hidn;have hb:=hR.nx;have hprn:∀j,h0.pr j->j<h.next:=λj hj=>aj (hR.ok.pr j hj) hb;refine⟨a2,?_,hg⟩;refine hR.Au (g:=aM o) (so':=bF o (.cells (cs.take n++vs))) (by show h.next<=(h.alone _ _).next+1;omega) (λj hj=>?_) (λj hj=>?_) ?_ ?_ ⟨.inr rfl,⟨λhj=>pi _ hj rfl,?_⟩,⟨λhj=>ce _ (hprn _ hj),?_⟩,⟨k4.1,?_⟩⟩ hg ?_ ?_ ?_ ?_ ?_
 ·simp only[H.en];rw[a2,bo _ _ (by have:=hprn j hj;omega),bo _ _ (pi j hj)];exact j7 q3 (px j hj) (py j hj)
 ·simp only[H.en];rw[bo _ _ (pfm j hj)];exact pd q3 (pfm j hj)
 ·simp only[H.en];exact nF al.1 lid
 ·simp only[H.en];rw[a2];exact cp (bc (dN _ _).1 al.2)
 ·simp only[H.en,a2];omega
 ·simp only[H.en,a2];omega
 ·simp only[H.en,a2];have:=k4.2;omega
 ·intro p s hp hs hsg;have sp:=hR.sep p o s _ hp hs hsg hS gt;obtain⟨⟨j1,j2,j3,j4⟩,_⟩:=hR.obj p s hs hsg
  have e1:(θ p).id≠(θ o).x:=by rcases j1 with e | e<;>rw[e];exact sp.xx;exact sp.yx
  have e2:(θ p).id≠(θ o).y:=by rcases j1 with e | e<;>rw[e];exact sp.xy;exact sp.yy
  have e3:(θ p).id<h.next:=by rcases j1 with e | e<;>omega
  refine⟨?_,?_,⟨?_,?_,?_,?_,sp.f⟩⟩
  ·simp only[H.en];rw[a2,bo _ _ i4,bo _ _ (by rcases k1 with e | e<;>rw[e]<;>assumption)];exact j7 q3 e1 e2
  ·simp only[H.en];rw[bo _ _ sp.f];exact pd q3 sp.f
  ·simp only;rcases k1 with e | e<;>rw[e];exact sp.xx;exact sp.xy
  ·simp only;omega
  ·simp only;rcases k1 with e | e<;>rw[e];exact sp.yx;exact sp.yy
  ·simp only;omega
 ·intro id ob hi;obtain⟨r1,_,r3⟩:=hR.row id ob hi;obtain⟨e1,e2⟩:=r3 o _ hS gt
  have e3:id≠(θ o).id:=by rcases k1 with e | e<;>rw[e]<;>assumption
  refine⟨?_,e3,by simp only;omega⟩;simp only[H.en];rw[a2,bo _ _ i4,bo _ _ e3];exact j7 q3 e1 e2
 ·refine⟨_,?_,((q2.take n).app hv).map hg,?_⟩
  ·simp only[H.en];rw[a2,cZ,b7]
  ·simp only[H.en];rw[cZ,a2]
 ·intro p hp;rw[a4 (λe=>hp e.symm)];exact rl _ _ _
 ·rw[ay (by unfold cA;rw[a3];exact bq hS)]
end
section
variable {θ θ':Nat->Loc} {ρ ρ0:j6} {P:Program}
variable{h0:En}{h:H}{S:List SO}{id:Nat}
def Gg(hR:RS θ ρ0 ρ h0 h S){row:List AV}(hr:vw ρ id=some row):rS h.aW id=some row:=by
 unfold vw at hr
 cases ho:ρ id with
 | none=>rw[ho] at hr;cases hr
 | some ob=>
  have:=(hR.row id ob ho).2.1;rw[ho] at hr;unfold rS;rw[this]
  cases ob<;>first | exact hr | (cases hr;done)
variable{x:AV}{v:SV}
def Fy(hR:RS θ ρ0 ρ h0 h S){tt:TypeId}{a:SV}(ha:VS θ ρ a x)(hl:yJ P S tt a=some v):∃y,C2 P h tt (some x)=some y/\VS θ ρ v y:=by
 unfold yJ at hl;split at hl
 ·rename_i o off;rw[VS] at ha;subst ha;split at hl
  ·rename_i cs hS;obtain⟨_,aS,q1,q2,_⟩:=hR.obj o _ hS gt;obtain⟨y,k1,k2⟩:=tN q2 hl;exact⟨y,by rw[BI,BH (aS:=aS) (by unfold rS;rw[q1];rfl)];exact k1,k2⟩
  ·cases hl
 ·rename_i cs;rw[VS,GS] at ha;obtain⟨id,off,row,r,rfl,h2,h3,h4⟩:=ha;obtain⟨y,k1,k2⟩:=tN (h4.vs (θ:=θ)) hl;refine⟨y,?_,k2⟩;rw[BI,BH (Gg hR h2)];have:=LF h3 k1;rw[Nat.add_zero] at this;exact this
 ·cases hl
variable{S':List SO}{y:AV}
def LQ(hR:RS θ ρ0 ρ h0 h S){tt:TypeId}{a:SV}(ha:VS θ ρ a x)(hv:VS θ ρ v y)(hs:Dv P S tt a v=some S'):
 ∃h' θ',Du P h tt (some x) (some y)=some h'/\RS θ' ρ0 ρ h0 h' S'/\∀v x,VS θ ρ v x->VS θ' ρ v x:=by
 unfold Dv at hs;split at hs
 ·rename_i o off;rw[VS] at ha;subst ha;split at hs
  ·rename_i cs hS;obtain⟨⟨n,_⟩,hq,hs⟩:=ul hs;obtain⟨vs,hvs,hs⟩:=ul hs;obtain⟨⟨b1,b2,b3⟩,hs⟩:=cm hs;cases hs;have hn:=(uC hq).2;simp only at b1 b2 hn;have kv:=uO hv hvs;subst b1;obtain⟨h',e1,e2,e3⟩:=hR.store hS kv (mf kv b3) b2;refine⟨h',_,?_,e2,e3⟩;rw[Iz];unfold H.storeVar;rw[hn,m7,kv.length,aa,ak];exact e1
  ·cases hs
 ·cases hs
def Qu{P:Program}{t:Tr AV}{nm:String}{first cap:Array Operand}:ew P t h (.makeFunc (.method nm) first cap)=((AA t first.toList).bind λa=>(AA t cap.toList).map λb=>AV.fn (.method nm) a b).map λv=>[(some v,h)]:=rfl
variable{w:SV}
def P5(hv:VS θ ρ v x)(h:aR P v=some w):oM P x=some x/\w=v:=by
 cases v with
 | ptr o off=>simp only[aR,qr] at h;rw[VS] at hv;subst hv;exact⟨rfl,h.symm⟩
 | ip cs=>simp only[aR,qr] at h;rw[VS,GS] at hv;obtain⟨id,off,row,r,rfl,_⟩:=hv;exact⟨rfl,h.symm⟩
 | fn g a b=>simp only[aR,qr] at h;rw[VS] at hv;obtain⟨xs,ys,rfl,_⟩:=hv;exact⟨rfl,h.symm⟩
 | sl n e cs=>simp only[aR,qr] at h;rw[VS,GS] at hv;rcases hv with⟨_,_,o,e',c,rfl,_,_⟩ | ⟨id,off,cap,row,rfl,_⟩<;>exact⟨rfl,h.symm⟩
 | buf o n e c=>simp only[aR,qr] at h;rw[VS] at hv;subst hv;exact⟨rfl,h.symm⟩
 | sub o off n e c=>simp only[aR,qr] at h;rw[VS] at hv;subst hv;exact⟨rfl,h.symm⟩
 | e0 e=>simp only[aR,qr] at h;rw[VS] at hv;obtain⟨o,e',rfl,_⟩:=hv;exact⟨rfl,h.symm⟩
 | a u=>
  unfold aR at h;split at h
  case h_8 hu=>
   cases hu;obtain⟨g,hg,rfl⟩:=az h;rw[VS] at hv;subst hv;refine⟨?_,rfl⟩;unfold oM;simp only[hg,m6]
  all_goals first | (cases h;done) | (rename_i hu;cases hu;done)
 | _=>simp[aR] at h
def KH{a b:Nat}(h:a<b):Nat.blt a b=true:=by rw[Nat.blt_eq];exact h
variable{cs:List SV}
def JS{k:Nat}(hv:GS ρ (.ip cs) x)(hk:k<=cs.length):∃id off row,x=.ptr (some (id,off))/\vw ρ id=some row/\GS ρ (.ip (cs.drop k)) (.ptr (some (id,off+k))):=by
 rw[GS] at hv;obtain⟨id,off,row,r,rfl,h2,h3,h4⟩:=hv;refine⟨id,off,row,rfl,h2,?_⟩;have hl:=h4.length;rw[ci,bh] at hl;rw[GS];refine⟨id,off+k,row,r-k,rfl,h2,by omega,?_⟩;have:=h4.drop k;rw[cc,a5] at this;exact this
def AB{s:TypeId}{fl:Nat}(hv:VS θ ρ v x)(h:po P s v fl=some w):∃y,jh P s x fl=some y/\VS θ ρ w y:=by
 unfold po at h;obtain⟨q,hq,h⟩:=ul h;obtain⟨hn0,h⟩:=cm h;obtain⟨fs,fd,hu,_,hfd,hn,e1,_⟩:=uX hq
 have hb:beq q.2.2 0=false:=by
  cases hb:beq q.2.2 0
  ·rfl
  ·exact un (cU hb) hn0
 cases v with
 | ptr o off=>
  simp only at h;cases h;rw[VS] at hv;subst hv;unfold jh;rw[hu];simp only;rw[hfd,m7,hn,m7,hb,au,e1];exact⟨_,rfl,by rw[VS]⟩
 | ip cs=>
  simp only at h;obtain⟨hk,h⟩:=cm h;cases h;rw[VS] at hv;obtain⟨id,off,row,rfl,_,h2⟩:=JS hv hk;unfold jh;rw[hu];simp only;rw[hfd,m7,hn,m7,hb,au,e1];exact⟨_,rfl,by rw[VS];exact h2⟩
 | _=>simp at h
def K7{s:TypeId}{fl:Nat}(hv:VS θ ρ v x)(h:yj P s v fl=some w):∃y,uU P s x fl=some y/\VS θ ρ w y:=by
 cases v with
 | ag cs=>
  simp only[yj] at h;rw[VS] at hv;obtain⟨aS,rfl,hv⟩:=hv;obtain⟨q,hq,h⟩:=ul h;obtain⟨fs,fd,hu,_,hfd,hn,e1,e2⟩:=uX hq;obtain⟨y,k1,k2⟩:=tN hv h;unfold uU;rw[hu];simp only;rw[hfd,m7,e1,e2];exact⟨y,k1,k2⟩
 | _=>simp[yj] at h
def C8{i:Nat}(hv:VS θ ρ v x)(h:Ih v=some i):di x=some i:=by
 cases v with
 | a v=>rw[VS] at hv;subst hv;exact h
 | _=>simp[Ih] at h
variable{t:TypeId}
def AF{iv:SV}{ix:AV}(hv:VS θ ρ v x)(hi:VS θ ρ iv ix)(h:pD P t v iv=some w):∃y,kh P t x ix=some y/\VS θ ρ w y:=by
 unfold pD at h;obtain⟨i,hin,h2⟩:=ul h;clear h;unfold kh;rw[C8 hi hin,m7]
 cases har:QY P t with
 | some q=>
  rw[har] at h2;simp only at h2;obtain⟨hu,hs⟩:=EB har;obtain⟨hlt,h⟩:=cm h2;rw[hu];have hlb:blt i q.1=true:=KH hlt
  cases v with
  | ptr o off=>
   simp only at h;cases h;rw[VS] at hv;subst hv;simp only;rw[hs,m7,hlb,ak];exact⟨_,rfl,by rw[VS]⟩
  | ip cs=>
   simp only at h;obtain⟨hk,h⟩:=cm h;cases h;rw[VS] at hv;obtain⟨id,off,row,rfl,_,h2⟩:=JS hv hk;simp only;rw[hs,m7,hlb,ak];exact⟨_,rfl,by rw[VS];exact h2⟩
  | _=>simp at h
 | none=>
  rw[har] at h2;simp only at h2;obtain⟨q,hq,h⟩:=ul h2;obtain⟨hu,hs⟩:=gi hq;obtain⟨e,s⟩:=q;simp only at hu hs h;rw[hu]
  cases v with
  | sl n es cs=>
   simp only at h;obtain⟨⟨hlt,hse⟩,h⟩:=cm h;cases h;subst hse;have hlb:blt i n=true:=KH hlt;rw[VS,GS] at hv
   rcases hv with⟨h1,_⟩ | ⟨id,off,cap,row,rfl,h2,h3,h4⟩
   ·omega
   ·simp only;rw[hs,m7,hlb,aa,ad,ak];refine⟨_,rfl,?_⟩
    have hms:i*s+s<=n*s:=by
     have:=ba s (show i+1<=n by omega);rw[d2] at this;exact this
    rw[VS,GS];refine⟨id,off+i*s,row,s,rfl,h2,by omega,?_⟩;have:=(h4.drop (i*s)).take s;rw[cc,a5,cd,bi i4] at this;exact this
  | buf o n es c=>
   simp only at h;obtain⟨⟨hlt,hse⟩,h⟩:=cm h;cases h;subst hse;have hlb:blt i n=true:=KH hlt;rw[VS] at hv;subst hv;simp only;rw[hs,m7,hlb,aa,ad,ak];exact⟨_,rfl,by rw[VS,bd]⟩
  | sub o off n es c=>
   simp only at h;obtain⟨⟨hlt,hse⟩,h⟩:=cm h;cases h;subst hse;have hlb:blt i n=true:=KH hlt;rw[VS] at hv;subst hv;simp only;rw[hs,m7,hlb,aa,ad,ak];exact⟨_,rfl,by rw[VS]⟩
  | _=>simp at h
def Ld{iv:SV}{ix:AV}(hv:VS θ ρ v x)(hi:VS θ ρ iv ix)(h:CT P t v iv=some w):∃y,u7 P t x ix=some y/\VS θ ρ w y:=by
 unfold CT at h;obtain⟨i,hin,h2⟩:=ul h;clear h;unfold u7;rw[C8 hi hin,m7]
 cases v with
 | ag cs=>
  simp only at h2;obtain⟨q,hq,h⟩:=ul h2;obtain⟨hu,hs⟩:=EB hq;obtain⟨hlt,h⟩:=cm h;rw[hu];rw[VS] at hv;obtain⟨aS,rfl,hv⟩:=hv;simp only;rw[hs,m7,KH hlt,ak];exact tN hv h
 | a v=>
  cases v with
  | str s=>
   simp only at h2
   cases hk:iT P t with
   | str=>
    rw[hk] at h2;simp only at h2;rw[yH hk];rw[VS] at hv;subst hv;simp only;obtain⟨b,hb,rfl⟩:=az h2;rw[hb];exact⟨_,rfl,by rw[VS]⟩
   | _=>rw[hk] at h2;cases h2
  | _=>simp at h2
 | _=>simp at h2
def LO{lo hi mx:Option AV}(hv:VS θ ρ v x)(h1:mX P t v lo hi mx=some w):∃y,vx P h t x lo hi mx=some y/\VS θ ρ w y:=by
 unfold mX at h1;unfold vx;split at h1
 ·rename_i s hk;rw[yH hk];rw[VS] at hv;subst hv
  cases mx with
  | some _=>cases h1
  | none=>
   simp only at h1 ⊢;obtain⟨b,hb,rfl⟩:=az h1;rw[hb];exact⟨_,rfl,by rw[VS]⟩
 ·rename_i n es cs hk
  cases mx with
  | some m=>
   simp only at h1;obtain⟨⟨e,s⟩,hq,h1⟩:=ul h1;obtain⟨hu,hs⟩:=gi hq;simp only at hu hs h1;rw[hu];obtain⟨⟨rfl,h2,h3,h4⟩,h5⟩:=cm h1;cases h5;subst h4;obtain⟨hv0,rfl,h2⟩:=ul h2
   have hb:∀cap,cQ n cap none (some hv0) (some m)=some (0,0,some 0):=by
    intro cap;unfold cQ;simp only;have h2':di hv0=some 0:=h2
    have hf:pY n cap 0=true:=by unfold pY;rw[fc (be n)];rfl
    rw[h3,m7,hf,ak,h2'];rfl
   rw[VS,GS] at hv
   rcases hv with⟨rfl,rfl,o,e',c,rfl,ho,hoe⟩ | ⟨id,off,cap,row,rfl,h6,h7,h8⟩
   ·simp only;rw[hs,m7,hb,m7];simp only
    cases o with
    | none=>exact⟨_,rfl,by rw[VS];exact⟨none,0,rfl,λh=>un rfl h⟩⟩
    | some q=>
     obtain⟨id,off⟩:=q;rw[hoe ge];simp only;rw[aa,ak];exact⟨_,rfl,by rw[VS];exact⟨_,_,rfl,λ_=>rfl⟩⟩
   ·simp only;rw[hs,m7,hb,m7];simp only;rw[aa,ak];exact⟨_,rfl,by rw[VS];exact⟨_,_,rfl,λ_=>rfl⟩⟩
  | none=>
   simp only at h1;obtain⟨⟨e,s⟩,hq,h1⟩:=ul h1;obtain⟨hu,hs⟩:=gi hq;simp only at hu hs;rw[hu];obtain⟨⟨l,hh,m⟩,hb,h1⟩:=ul h1;obtain⟨hse,h1⟩:=cm h1;cases h1;simp only at hse;subst hse
   have hbd:∀cap,(cQ n cap lo hi none=some (l,hh,cap))/\l<=hh/\hh<=n:=by
    intro cap;unfold cQ at hb ⊢;simp only at hb ⊢;obtain⟨q,hq,hb⟩:=ul hb
    have hq2:oC n cap hi=some q/\q<=n:=by
     cases hi with
     | none=>simp only[oC,qr] at hq ⊢;exact⟨hq,by omega⟩
     | some hv=>
      simp only[oC] at hq ⊢;obtain⟨k,hk,hq⟩:=ul hq;obtain⟨hf,hq⟩:=aI hq;cases hq;simp only[pY,du] at hf;rw[hk,m7];unfold pY;rw[hf,co,ak];exact⟨rfl,jg hf⟩
    rw[hq2.1,m7]
    cases lo with
    | none=>simp only[qr,m8] at hb ⊢;obtain⟨rfl,rfl,_⟩:=hb;exact⟨by simp,be _,hq2.2⟩
    | some lv=>
     simp only at hb ⊢;obtain⟨k,hk,hb⟩:=ul hb;obtain⟨hf,hb⟩:=aI hb;simp only[qr,m8] at hb;obtain⟨rfl,rfl,_⟩:=hb;rw[hk,m7,hf,ak];exact⟨by simp,jg hf,hq2.2⟩
   rw[VS,GS] at hv
   rcases hv with⟨rfl,rfl,o,e',c,rfl,ho,hoe⟩ | ⟨id,off,cap,row,rfl,h2,h3,h4⟩
   ·obtain⟨b1,b2,b3⟩:=hbd c
    have hl0:l=0:=by omega
    have hh0:hh=0:=by omega
    subst hl0;subst hh0;simp only;rw[hs,m7,b1,m7];simp only
    cases o with
    | none=>
     exact⟨_,rfl,by rw[VS,GS];exact .inl ⟨rfl,by simp,none,0,some 0,rfl,λ_=>rfl,λh=>un rfl h⟩⟩
    | some q=>
     obtain⟨id,off⟩:=q;rw[hoe ge];simp only;rw[aa,ak];exact⟨_,rfl,by rw[VS,GS];exact .inl ⟨rfl,by simp,_,_,_,rfl,λh=>(by cases h),λ_=>rfl⟩⟩
   ·obtain⟨b1,b2,b3⟩:=hbd cap;simp only;rw[hs,m7,b1,m7];simp only;rw[aa,ak];refine⟨_,rfl,?_⟩;rw[VS,GS];have m1:l*s<=hh*s:=ba s b2;have m2:hh*s<=n*s:=ba s b3;refine .inr ⟨id,off+l*s,bl cap l,row,rfl,h2,by rw[Nat.sub_mul];omega,?_⟩;have:=(h4.drop (l*s)).take ((hh-l)*s);rw[cc,a5,cd,bi (by rw[Nat.sub_mul];omega)] at this;exact this
 ·rename_i o n es c hk
  cases mx with
  | some _=>cases h1
  | none=>
   simp only at h1;obtain⟨⟨e,s⟩,hq,h1⟩:=ul h1;obtain⟨hu,hs⟩:=gi hq;simp only at hu hs;rw[hu];obtain⟨⟨l,hh,m⟩,hb,h1⟩:=ul h1;obtain⟨hse,h1⟩:=cm h1;cases h1;simp only at hse;subst hse;rw[VS] at hv;subst hv;simp only;rw[hs,m7,hb,m7];simp only;rw[aa,ak]
   cases lo with
   | none=>
    have hl0:l=0:=by
     unfold cQ at hb;simp only at hb;obtain⟨q,hq,hb⟩:=ul hb;simp only[qr,m8] at hb;exact hb.1.symm
    subst hl0;exact⟨_,rfl,by rw[VS,b0]⟩
   | some _=>exact⟨_,rfl,by rw[VS,bd]⟩
 ·rename_i o off n es c hk
  cases mx with
  | some _=>cases h1
  | none=>
   simp only at h1;obtain⟨⟨e,s⟩,hq,h1⟩:=ul h1;obtain⟨hu,hs⟩:=gi hq;simp only at hu hs;rw[hu];obtain⟨⟨l,hh,m⟩,hb,h1⟩:=ul h1;obtain⟨hse,h1⟩:=cm h1;cases h1;simp only at hse;subst hse;rw[VS] at hv;subst hv;simp only;rw[hs,m7,hb,m7];simp only;rw[aa,ak];exact⟨_,rfl,by rw[VS]⟩
 ·rename_i hk;obtain⟨⟨e,s⟩,hq,h1⟩:=ul h1;obtain⟨hu,hs⟩:=gi hq;simp only at hu hs;rw[hu];obtain⟨⟨l,hh,m⟩,hb,rfl⟩:=az h1;rw[VS] at hv;subst hv;simp only;rw[hs,m7,hb,m7];exact⟨_,rfl,by rw[VS]⟩
 ·rename_i e0 hk;obtain⟨⟨e,s⟩,hq,h1⟩:=ul h1;obtain⟨hu,hs⟩:=gi hq;simp only at hu hs;rw[hu];obtain⟨⟨l,hh,m⟩,hb,h1⟩:=ul h1;obtain⟨⟨hl0,hh0,hm0,hse⟩,h5⟩:=cm h1;clear h1;cases h5;simp only at hse;subst hl0;subst hh0;subst hm0;subst hse;rw[VS] at hv;obtain⟨o,e',rfl,hoe⟩:=hv;simp only;rw[hs,m7,hb,m7];simp only
  cases o with
  | none=>exact⟨_,rfl,by rw[VS];exact⟨none,0,rfl,λh=>un rfl h⟩⟩
  | some q=>
   obtain⟨id,off⟩:=q;rw[hoe ge];simp only;rw[aa,ak];exact⟨_,rfl,by rw[VS];exact⟨_,_,rfl,λ_=>rfl⟩⟩
 ·cases h1
end
section
variable {θ θ':Nat->Loc} {ρ ρ0:j6} {P:Program}
variable{h0:En}{h:H}{S:List SO}{v:SV}{x:AV}
def JH(hR:RS θ ρ0 ρ h0 h S)(hv:VS θ ρ v x){e:List AV×List SV}(he:Az S v=some e):
 (x=.map none/\e=([],[]))\/∃id l c,x=.map (some id)/\h.mapOf id=some (l,c)/\l.map (·.1)=e.1/\c9 θ ρ e.2 (l.map (·.2.1)):=by
 unfold Az at he;split at he
 ·rename_i o;rw[VS] at hv;subst hv;split at he
  ·rename_i ks vs b hS;cases he;obtain⟨_,l,c,q1,⟨q2,_⟩,q3⟩:=hR.obj o _ hS gt;exact .inr ⟨_,l,c,rfl,by unfold H.mapOf;rw[q1],q2,q3⟩
  ·cases he
 ·cases he;rw[VS,GS] at hv;obtain⟨id,l,c,rfl,h2,h3,h4⟩:=hv;exact .inr ⟨id,l,c,rfl,by unfold H.mapOf;rw[(hR.row id _ h2).2.1],h3.1,h4.vs⟩
 ·cases he;rw[VS] at hv;subst hv;exact .inl ⟨rfl,rfl⟩
 ·cases he
variable{t:TypeId}{w:SV}{y:AV}
def H7(hR:RS θ ρ0 ρ h0 h S){k:SV}{ok:Bool}(hv:VS θ ρ v x)(hk:VS θ ρ k y)(hl:jc P S t v k ok=some w):∃z,rq P h t x y ok=some z/\VS θ ρ w z:=by
 unfold jc at hl;obtain⟨⟨kt,et⟩,hm,hl⟩:=ul hl;obtain⟨ka,hka,hl⟩:=ul hl;have:=jD hk hka;subst this;obtain⟨hkey,hl⟩:=aI hl;obtain⟨⟨ks,vs⟩,hent,hl⟩:=ul hl;obtain⟨r,hf,hl⟩:=ul hl;obtain⟨⟨u,b⟩,hu,rfl⟩:=az hl;unfold rq;rw[hm,m7];simp only;rw[hkey,ak]
 have fin:∀z:AV,VS θ ρ u z->VS θ ρ (cond ok (.cx [u,.a (.bool b)]) u) (cond ok (.cx [z,.bool b]) z):=by
  intro z hz;cases ok
  ·exact hz
  ·rw[ak,ak,VS];refine⟨_,rfl,?_⟩;rw[aN];refine⟨z,_,rfl,hz,?_⟩;rw[aN];exact⟨_,[],rfl,by rw[VS],by rw[bj]⟩
 rcases JH hR hv hent with⟨rfl,he⟩ | ⟨id,l,c,rfl,h1,h2,h3⟩
 ·cases he;simp only[tv,qr] at hf;subst hf;obtain⟨z,hz,hu⟩:=az hu;cases hu;simp only[m7,gM,hz,m6];exact⟨_,rfl,fin _ (zy z)⟩
 ·simp only at h2 h3 hf;simp only[h1,m6,m7];rw[tw,h2,hf,m7]
  cases r with
  | none=>
   obtain⟨z,hz,hu⟩:=az hu;cases hu;simp only[hz,m6];exact⟨_,rfl,fin _ (zy z)⟩
  | some i=>
   obtain⟨e,he,hu⟩:=az hu;cases hu;obtain⟨z,hz,kz⟩:=h3.get he;rw[a7] at hz;obtain⟨e3,he3,rfl⟩:=az hz;simp only[he3,m6];exact⟨_,rfl,fin _ kz⟩
def rz{α:Type}(g:AV×AV×Nat->α)(x:AV×AV×Nat):∀(l:List (AV×AV×Nat)) (i:Nat),(setAt x l i).map g=(l.map g).set i (g x)
 | [],i=>by cases i<;>rfl
 | e::l,0=>rfl
 | e::l,i+1=>by
  rw[setAt,am,am,List.set_cons_succ,rz g x l i]
def nP.snoc{l:List (AV×AV×Nat)}{c:Nat}(h:nP l c)(k v:AV):nP (l++[(k,v,c)]) (c+1):=by
 refine⟨?_,λe he=>?_⟩
 ·rw[bt,List.nodup_append];refine⟨h.1,by simp,?_⟩;intro a ha b hb;obtain⟨e,he,rfl⟩:=mem_map.1 ha;simp only[am,bv,List.mem_singleton] at hb;subst hb;exact Nat.ne_of_lt (h.2 e he)
 ·rcases List.mem_append.1 he with he | he
  ·exact Nat.lt_succ_of_lt (h.2 e he)
  ·rw[t6 he];exact bL _
def nP.Qb{l l':List (AV×AV×Nat)}{c:Nat}(h:nP l c)(hb:l'.map (·.2.2)=l.map (·.2.2)):nP l' c:=by
 refine⟨by rw[hb];exact h.1,λe he=>?_⟩;have:e.2.2∈l'.map (·.2.2):=List.mem_map_of_mem he;rw[hb] at this;obtain⟨e',he',q⟩:=mem_map.1 this;rw[<-q];exact h.2 e' he'
variable{S':List SO}
def yO(hR:RS θ ρ0 ρ h0 h S){k:SV}{z:AV}(hv:VS θ ρ v x)(hk:VS θ ρ k y)(hw:VS θ ρ w z)(hl:ik P S t v k w=some S'):∃h',ko P h t x y z=some h'/\RS θ ρ0 ρ h0 h' S':=by
 unfold ik at hl;obtain⟨⟨kt,et⟩,hm,hl⟩:=ul hl;obtain⟨ka,hka,hl⟩:=ul hl;have:=jD hk hka;subst this;obtain⟨hkey,hl⟩:=aI hl;unfold ko;rw[hm,m7];simp only;rw[hkey,ak]
 cases v with
 | map o=>
  rw[VS] at hv;subst hv;simp only at hl ⊢;split at hl
  ·rename_i ks vs b hS;obtain⟨_,l,c,q1,⟨q2,qb,qp⟩,q3⟩:=hR.obj o _ hS gt
   have hmo:h.mapOf (θ o).id=some (l,c):=by unfold H.mapOf;rw[q1]
   obtain⟨r,hf,hl⟩:=ul hl;rw[hmo,m7];simp only;rw[tw,q2,hf,m7]
   cases r with
   | none=>
    simp only at hl ⊢;cases hl;refine⟨_,rfl,hR.R5 hS ?_ ?_⟩
    ·refine⟨by rw[bt,q2];rfl,qb.snoc _ _,λp hp=>?_⟩;obtain⟨p0,hp0,rfl⟩:=az hp;obtain⟨e1,e2⟩:=qp p0 hp0;exact⟨by rw[bt,e1,e2];rfl,by rw[e2]⟩
    ·rw[bt];refine q3.app ?_;rw[am,bv,aN];exact⟨_,[],rfl,hw,by rw[bj]⟩
   | some i=>
    simp only at hl ⊢;obtain⟨k0,hk0,hl⟩:=ul hl;obtain⟨hst,hl⟩:=aI hl;cases hl;rw[<-q2,a7] at hk0;obtain⟨e3,he3,rfl⟩:=az hk0;rw[he3,m7,hst,ak];refine⟨_,rfl,hR.R5 hS ?_ ?_⟩
    ·have hb:(setAt (y,z,e3.2.2) l i).map (·.2.2)=l.map (·.2.2):=by
      rw[rz];apply List.ext_getElem?;intro j;rw[List.getElem?_set];split
      ·rename_i e;subst e;split
       ·rw[a7,he3];rfl
       ·rename_i hl;rw[a3] at hl;rw[a8 (by rw[a3];omega)]
      ·rfl
     exact⟨by rw[rz,q2],qb.Qb hb,λp hp=>by rw[hb];exact qp p hp⟩
    ·rw[rz];exact q3.set i hw
  ·cases hl
 | _=>simp at hl
def c9.erase:∀{ds:List SV} {aS:List AV} (i:Nat),c9 θ ρ ds aS->c9 θ ρ (ds.eraseIdx i) (aS.eraseIdx i)
 | [],aS,i,h=>by rw[bj] at h;subst h;rw[cv,cv,bj]
 | d::ds,aS,i,h=>by
  rw[aN] at h;obtain⟨a,r,rfl,h1,h2⟩:=h
  cases i with
  | zero=>exact h2
  | succ i=>rw[a6,a6,aN];exact⟨a,_,rfl,h1,c9.erase i h2⟩
def ff{α β:Type}(g:α->β):∀(l:List α) (i:Nat),(l.eraseIdx i).map g=(l.map g).eraseIdx i
 | [],i=>by simp
 | a::l,0=>rfl
 | a::l,i+1=>by rw[a6,am,am,a6,ff g l i]
def PB(hR:RS θ ρ0 ρ h0 h S){k:SV}(hv:VS θ ρ v x)(hk:VS θ ρ k y)(hl:KY P S t v k=some S'):∃h',tc P h t x y=some (.cx [],h')/\RS θ ρ0 ρ h0 h' S':=by
 unfold KY at hl;obtain⟨⟨kt,et⟩,hm,hl⟩:=ul hl;obtain⟨ka,hka,hl⟩:=ul hl;have:=jD hk hka;subst this;obtain⟨hkey,hl⟩:=aI hl;unfold tc;rw[hm,m7];simp only;rw[hkey,ak]
 cases v with
 | map o=>
  rw[VS] at hv;subst hv;simp only at hl ⊢;split at hl
  ·rename_i ks vs b hS;obtain⟨_,l,c,q1,⟨q2,qb,qp⟩,q3⟩:=hR.obj o _ hS gt
   have hmo:h.mapOf (θ o).id=some (l,c):=by unfold H.mapOf;rw[q1]
   obtain⟨r,hf,rfl⟩:=az hl;rw[hmo,m7];simp only;rw[tw,q2,hf,m6]
   cases r with
   | none=>exact⟨_,rfl,hR⟩
   | some i=>
    refine⟨_,rfl,hR.R5 hS ?_ ?_⟩
    ·refine⟨by rw[ff,q2],⟨by rw[ff];exact qb.1.sublist (List.eraseIdx_sublist _ _),λe he=>qb.2 e (List.mem_of_mem_eraseIdx he)⟩,λp hp=>?_⟩;obtain⟨p0,hp0,rfl⟩:=az hp;obtain⟨e1,e2⟩:=qp p0 hp0;exact⟨by rw[ff,e1],e2⟩
    ·rw[ff];exact q3.erase i
  ·cases hl
 | _=>simp at hl
variable{n:Nat}
def PZ(hR:RS θ ρ0 ρ h0 h S)(hv:VS θ ρ v x)(hl:yI P S t v=some n):Fx P h t x=some (.int .i64 (n:Int)):=by
 unfold yI at hl;unfold Fx;split at hl
 ·rename_i s hk;rw[yH hk];rw[VS] at hv;subst hv;cases hl;rfl
 ·rename_i n' _ cs hk;obtain⟨e,hu⟩:=pF hk;rw[hu];rw[VS,GS] at hv;cases hl
  rcases hv with⟨rfl,_,o,e',c,rfl,_,_⟩ | ⟨id,off,cap,row,rfl,_⟩<;>rfl
 ·rename_i o n' _ c hk;obtain⟨e,hu⟩:=pF hk;rw[hu];rw[VS] at hv;subst hv;cases hl;rfl
 ·rename_i n' _ c hk;obtain⟨e,hu⟩:=pF hk;rw[hu];rw[VS] at hv;subst hv;cases hl;rfl
 ·rename_i hk;obtain⟨kt,et,hu⟩:=NF hk;rw[hu];obtain⟨e,he,rfl⟩:=az hl
  rcases JH hR hv he with⟨rfl,rfl⟩ | ⟨id,l,c,rfl,h1,h2,h3⟩
  ·rfl
  ·simp only[h1,m6,<-h2,a3];rfl
 ·rename_i o off n' _ c hk;obtain⟨e,hu⟩:=pF hk;rw[hu];rw[VS] at hv;subst hv;cases hl;rfl
 ·rename_i e hk;obtain⟨e,hu⟩:=pF hk;rw[hu];rw[VS] at hv;obtain⟨o,e',rfl,_⟩:=hv;cases hl;rfl
 ·cases hl
def Gh(hR:RS θ ρ0 ρ h0 h S){s m:Nat}{new:List SV}(hv:VS θ ρ v x)(hl:tX S s v=some (m,new)):
 ∃o es c xs,x=.slice o m es c/\(beq es s||beq m 0)=true/\cE h o m s=some xs/\c9 θ ρ new xs:=by
 unfold tX at hl;split at hl
 ·rename_i n e cs;obtain⟨hb,hl⟩:=cm hl;cases hl;subst hb;rw[VS,GS] at hv
  rcases hv with⟨rfl,rfl,o,e',c,rfl,_,_⟩ | ⟨id,off,cap,row,rfl,h2,h3,h4⟩
  ·refine⟨o,e',c,[],rfl,by simp,?_,by rw[bj]⟩;unfold cE
   cases o with
   | none=>rfl
   | some q=>rfl
  ·refine⟨_,e,cap,(row.drop off).take (m*e),rfl,by rw[aa,co],?_,h4.vs⟩;unfold cE;simp only;cases hm:beq m 0
   ·rw[au,mi,Gg hR h2];simp only[m7,lq];rw[fc h3,ak]
   ·have:=cU hm;subst this;rw[ak,b0,bk]
 ·rename_i o n e c;split at hl
  ·rename_i cs hS;obtain⟨⟨hes,hle⟩,hl⟩:=cm hl;cases hl;subst hes;rw[VS] at hv;subst hv;obtain⟨_,aS,q1,q2,_⟩:=hR.obj o _ hS gt;refine⟨_,e,c,aS.take (m*e),rfl,by rw[aa,co],?_,q2.take _⟩;unfold cE;simp only;cases hm:beq m 0
   ·rw[au,mi];unfold rS;rw[q1];simp only[m7,lq];show lq aS 0 (m*e)=_;unfold lq;rw[fc (show 0+m*e<=aS.length by rw[q2.length];omega),ak,b7]
   ·have:=cU hm;subst this;rw[ak,b0,bk]
  ·cases hl
 ·cases hl;rw[VS] at hv;subst hv;exact⟨none,0,some 0,[],rfl,by simp,rfl,by rw[bj]⟩
 ·rename_i o off n e c;split at hl
  ·rename_i cs hS;obtain⟨⟨hes,hle⟩,hl⟩:=cm hl;cases hl;subst hes;rw[VS] at hv;subst hv;obtain⟨_,aS,q1,q2,_⟩:=hR.obj o _ hS gt;refine⟨_,e,c,(aS.drop off).take (m*e),rfl,by rw[aa,co],?_,(q2.drop off).take _⟩;unfold cE;simp only;cases hm:beq m 0
   ·rw[au,mi];unfold rS;rw[q1];simp only[m7,lq];show lq aS off (m*e)=_;unfold lq;rw[fc (show off+m*e<=aS.length by rw[q2.length];omega),ak]
   ·have:=cU hm;subst this;rw[ak,b0,bk]
  ·cases hl
 ·cases hl;rw[VS] at hv;obtain⟨o,e',rfl,_⟩:=hv;refine⟨o,e',some 0,[],rfl,by simp,?_,by rw[bj]⟩;unfold cE
  cases o with
  | none=>rfl
  | some q=>rfl
 ·cases hl
def FN{a b:Nat}(h:a≠b):beq a b=false:=by
 cases hb:beq a b
 ·rfl
 ·exact un (cU hb) h
def Ii(hR:RS θ ρ0 ρ h0 h S){xt e:TypeId}{s m:Nat}{z:AV}{new:List SV}(hz:dm P e=some z)(hzl:z.cells.length=s)(hw:VS θ ρ w y)(hl:xw P S xt s z w=some (m,new)):
 ∃xs,mh P h e s xt y=some (m,xs)/\c9 θ ρ new xs:=by
 unfold xw at hl;unfold mh;split at hl
 ·rename_i hk;obtain⟨e',hux⟩:=pF hk;obtain⟨o,es,c,xs,rfl,k1,k2,k3⟩:=Gh hR hw hl;rw[hux];simp only;rw[k1,ak,k2];exact⟨xs,rfl,k3⟩
 ·obtain⟨hi,hl⟩:=aI hl;obtain⟨n,hn,hl⟩:=ul hl;obtain⟨hb,hl⟩:=cm hl;cases hl;unfold isInt at hi;split at hi
  ·rename_i kk hu;rw[hu];simp only;rw[C8 hw hn,m7,hz,m7,fc hb,hzl,aa,ad,ak];exact⟨_,rfl,c9.a _⟩
  ·cases hi
 ·cases hl
variable{r:SV}
def Hw(hR:RS θ ρ0 ρ h0 h S){st xt:TypeId}{kill:Option Nat}(hv:VS θ ρ v x)(hw:VS θ ρ w y)(hl:xd P S st xt v w=some (r,S',kill)):
 ∃z h' θ',sS P h st xt x y=some (z,h')/\RS θ' ρ0 ρ h0 h' S'/\VS θ' ρ r z/\∀v x,VS θ ρ v x->VS θ' ρ (jJ kill v) x:=by
 unfold xd at hl;have hl2:=ul hl;clear hl;obtain⟨⟨e,s⟩,hel,hl⟩:=hl2;obtain⟨hu,hs⟩:=gi hel;simp only at hu hs hl;obtain⟨i,hi,rfl⟩:=az hs;have hl2:=ul hl;clear hl;obtain⟨z,hz,hl⟩:=hl2;have hl2:=cm hl;clear hl;obtain⟨⟨b1,b2,b3⟩,hl⟩:=hl2;have hl2:=ul hl;clear hl;obtain⟨⟨m,new⟩,hrow,hl⟩:=hl2;unfold ph at b3;rw[hi] at b3;simp only at b3 hl;have b2':=FN b2;obtain⟨xs,happ,k3⟩:=Ii hR hz b1 hw hrow;unfold sS;rw[hu];by_cases hm:m=0
 ·rw[ut hm] at hl
  have hmb:beq m 0=true:=by rw[hm];rfl
  unfold MB at hl;split at hl
  ·cases hl;have hv':=hv;rw[VS] at hv;subst hv;simp only[hi,hz,m7,b1,b2',b3,aa,fc (show 0<=1000000 by omega),a0,ad,ak,happ,hmb];exact⟨_,_,θ,rfl,hR,hv',λv x h=>h⟩
  ·obtain⟨hn,hl⟩:=cm hl;cases hl;have hv':=hv;rw[VS] at hv;subst hv;simp only[hi,hz,m7,b1,b2',b3,aa,fc hn,a0,ad,ak,happ,hmb];exact⟨_,_,θ,rfl,hR,hv',λv x h=>h⟩
  ·cases hl;have hv':=hv;rw[VS] at hv;obtain⟨o',e',rfl,_⟩:=hv;simp only[hi,hz,m7,b1,b2',b3,aa,fc (show 0<=1000000 by omega),a0,ad,ak,happ,hmb];exact⟨_,_,θ,rfl,hR,hv',λv x h=>h⟩
  ·cases hl
 ·rw[v6 hm] at hl;have hmb:=FN hm;have hl2:=cm hl;clear hl;obtain⟨⟨b4,b5⟩,hl⟩:=hl2;have hone:=mf k3 b5;unfold KF at hl;split at hl
  ·rw[VS] at hv;subst hv;cases hl;obtain⟨n1,n2⟩:=hR.new (so:=.cells new) (ob:=.cells xs h.next) (.inl ⟨new,xs,rfl,rfl,k3⟩);simp only[hi,hz,m7,b1,b2',b3,aa,fc (show 0<=1000000 by omega),a0,ad,ak,happ,hmb,au,fc b4,H.mO];refine⟨_,_,_,rfl,n1,?_,n2⟩;rw[VS,cF]
  ·rename_i o' n es';rw[VS] at hv;subst hv;split at hl
   ·rename_i cs hS;obtain⟨⟨c1,c2,c3⟩,hl2⟩:=cm hl;cases hl2;subst c1;obtain⟨_,aS,q1,q2,q3⟩:=hR.obj o' _ hS gt;obtain⟨f1,f2,f3⟩:=hR.fork hS k3 q1 c3
    have hle:ble (n*i.size) aS.length=true:=by rw[q2.length];exact fc c3
    simp only[hi,hz,m7,b1,b2',b3,fc c2,a0,ad,ak,happ,hmb,au,fc b4,aa,q1,hle,hone,bd];refine⟨_,_,_,rfl,f2,?_,f3⟩;rw[VS,cF,f1]
   ·cases hl
  ·rename_i e';obtain⟨c1,hl2⟩:=cm hl;cases hl2;rw[VS] at hv;obtain⟨o',e'',rfl,ho'⟩:=hv;obtain⟨n1,n2⟩:=hR.new (so:=.cells new) (ob:=.cells xs h.next) (.inl ⟨new,xs,rfl,rfl,k3⟩)
   cases o' with
   | none=>
    simp only[hi,hz,m7,b1,b2',b3,aa,fc (show 0<=1000000 by omega),a0,ad,ak,happ,hmb,au,fc b4,H.mO];refine⟨_,_,_,rfl,n1,?_,n2⟩;rw[VS,cF]
   | some q=>
    have:=ho' ge;subst this;subst c1;obtain⟨id,off⟩:=q
    have hnl:ble (0+m) 0=false:=by
     cases hb:ble (0+m) 0
     ·rfl
     ·have:=md hb;omega
    have hsc:cE h (some (id,off)) 0 i.size=some []:=rfl;simp only[hi,hz,m7,b1,b2',b3,aa,fc (show 0<=1000000 by omega),a0,ad,ak,happ,hmb,au,fc b4,H.mO,hnl,hsc,m6,c6];refine⟨_,_,_,rfl,n1,?_,n2⟩;rw[VS,cF,bd]
  ·rename_i o' n es' c';rw[VS] at hv;subst hv;split at hl
   ·rename_i cs hS;obtain⟨⟨c1,c2,c3,c4⟩,hl2⟩:=cm hl;cases hl2;subst c1;obtain⟨_,aS,q1,q2,q3⟩:=hR.obj o' _ hS gt;obtain⟨n1,n2⟩:=hR.new (so:=.cells (cs.take (n*i.size)++new)) (ob:=.cells (aS.take (n*i.size)++xs) h.next) (.inl ⟨_,_,rfl,rfl,(q2.take _).app k3⟩)
    have hnl:ble (n+m) c'=false:=by
     cases hb:ble (n+m) c'
     ·rfl
     ·have:=md hb;omega
    have hsc:cE h (some ((θ o').id,0)) n i.size=some (aS.take (n*i.size)):=by
     unfold cE;simp only;cases hm:beq n 0
     ·rw[au,mi];unfold rS;rw[q1];simp only[m7];show lq aS 0 (n*i.size)=_;unfold lq;rw[fc (show 0+n*i.size<=aS.length by rw[q2.length];omega),ak,b7]
     ·have:=cU hm;subst this;rw[ak,b0,bk]
    simp only[hi,hz,m7,b1,b2',b3,fc c2,a0,ad,ak,happ,hmb,au,fc b4,aa,hnl,hsc,m6,H.mO];refine⟨_,_,_,rfl,n1,?_,n2⟩;rw[VS,cF]
   ·cases hl
  ·cases hl
def Pr{x:SV}{a:AV}{c:Nat}(hv:VS θ ρ x a)(hc:HB x=some c):∃o n e,a=.slice o n e (some c):=by
 unfold HB at hc;split at hc
 ·cases hc;rw[VS] at hv;exact⟨_,_,_,hv⟩
 ·cases hc;rw[VS] at hv;exact⟨_,_,_,hv⟩
 ·cases hc;rw[VS] at hv;exact⟨_,_,_,hv⟩
 ·cases hc;rw[VS] at hv;obtain⟨o,e',rfl,_⟩:=hv;exact⟨_,_,_,rfl⟩
 ·cases hc
variable{o:Nat}
def MH{x:SV}{a:AV}{off e:Nat}(hv:VS θ ρ x a)(hc:SG x=some (o,off,n,e)):∃c,a=.slice (some ((θ o).id,off)) n e c:=by
 unfold SG at hc;split at hc
 ·cases hc;rw[VS] at hv;exact⟨_,hv⟩
 ·cases hc;rw[VS] at hv;exact⟨_,hv⟩
 ·cases hc
def M6(hR:RS θ ρ0 ρ h0 h S){kill:Option Nat}(hv:VS θ ρ v x)(hw:VS θ ρ w y)(hl:JG P S t v w=some (r,S',kill)):
 ∃z h' θ',ES P h t x y=some (z,h')/\RS θ' ρ0 ρ h0 h' S'/\VS θ' ρ r z/\∀v x,VS θ ρ v x->VS θ' ρ (jJ kill v) x:=by
 unfold JG at hl;obtain⟨⟨e,s⟩,hel,hl⟩:=ul hl;obtain⟨hu,hs⟩:=gi hel;obtain⟨⟨o,off,dl,des⟩,hat,hl⟩:=ul hl;obtain⟨⟨m,new⟩,hrow,hl⟩:=ul hl;obtain⟨cap,rfl⟩:=MH hv hat;obtain⟨o',es,c,xs,rfl,k1,k2,k3⟩:=Gh hR hw hrow;simp only at hl hu hs hrow k2;unfold ES;rw[hu];simp only;rw[hs,m7];unfold M5 at hl;by_cases hn:Nat.min m dl=0
 ·rw[ut hn] at hl;cases hl;rw[hn];exact⟨_,_,θ,rfl,hR,by rw[VS],λv x h=>h⟩
 ·rw[v6 hn] at hl;split at hl
  ·rename_i cs hS;obtain⟨⟨c1,c2,c3,c4⟩,hl2⟩:=cm hl;cases hl2;subst c1;have hm:m≠0:=λe=>hn (by rw[e];exact Nat.zero_min _)
   have hes:es=des:=by
    rw[FN hm,du] at k1;exact cU k1
   subst hes;have hmn:Nat.min m dl<=m:=Nat.min_le_left _ _;generalize Nat.min m dl=n at *
   obtain⟨id,off',row,rfl,hch⟩:∃id off' row,o'=some (id,off')/\rS h.aW id=some row/\off'+m*es<=row.length/\xs=(row.drop off').take (m*es):=by
    unfold cE at k2
    cases o' with
    | none=>simp[FN hm] at k2
    | some q=>
     obtain⟨id,off'⟩:=q;simp only[FN hm,au,mi] at k2;obtain⟨row,hr,k2⟩:=ul k2;unfold lq at k2;obtain⟨hb,k2⟩:=aI k2;exact⟨id,off',row,rfl,hr,md hb,by cases k2;rfl⟩
   have hle:n*es<=m*es:=ba _ hmn
   have hsc:cE h (some (id,off')) n es=some (xs.take (n*es)):=by
    unfold cE;simp only[FN hn,au,mi,hch.1,m7];unfold lq;rw[fc (show off'+n*es<=row.length by omega),ak,hch.2.2,cd,bi hle]
   have hl1:(new.take (n*es)).length=n*es:=by rw[ci,bi c3]
   obtain⟨h',e1,e2,e3⟩:=hR.store (off:=off) hS (k3.take (n*es)) (mf (k3.take _) c4) (by rw[hl1];exact c2);refine⟨_,h',_,?_,by rw[hl1] at e2;exact e2,by rw[VS],e3⟩;rw[FN hn,au,aa,ad,ak,hsc,m7];simp only[e1,m6];rfl
  ·cases hl
def KT(hR:RS θ ρ0 ρ h0 h S){kill:Option Nat}(hv:VS θ ρ v x)(hl:CA P S t v=some (r,S',kill)):
 ∃z h' θ',xY P h t x=some (z,h')/\RS θ' ρ0 ρ h0 h' S'/\VS θ' ρ r z/\∀v x,VS θ ρ v x->VS θ' ρ (jJ kill v) x:=by
 unfold CA at hl;obtain⟨⟨e,s⟩,hel,hl⟩:=ul hl;obtain⟨hu,hs⟩:=gi hel;obtain⟨z,hz,hl⟩:=ul hl;obtain⟨⟨o,off,n,es⟩,hat,hl⟩:=ul hl;obtain⟨cap,rfl⟩:=MH hv hat;simp only at hl hu hs hz;unfold xY;rw[hu];simp only;rw[hs,m7,hz,m7];by_cases hn:n=0
 ·rw[ut hn] at hl;cases hl;subst hn;exact⟨_,_,θ,rfl,hR,by rw[VS];rfl,λv x h=>h⟩
 ·rw[v6 hn] at hl;split at hl
  ·rename_i cs hS;obtain⟨⟨c1,c2,c3,c4⟩,hl2⟩:=cm hl;cases hl2;subst c1
   have hl1:((rep z.cells n).map SV.a).length=n*es:=by
    rw[a3,fW,c2]
   obtain⟨h',e1,e2,e3⟩:=hR.store (off:=off) hS (c9.a (rep z.cells n)) c4 (by rw[hl1];exact c3);refine⟨_,h',_,?_,by rw[hl1] at e2;exact e2,by rw[VS],e3⟩;rw[FN hn,au,aa,c2,aa,ad,ak];simp only[e1,m6];rfl
  ·cases hl
variable{vs:List SV}
def EJ(hR:RS θ ρ0 ρ h0 h S){b:Builtin}{ats:List TypeId}{xs:List AV}{kill:Option Nat}(hv:c9 θ ρ vs xs)(hl:gI P S b ats vs=some (r,S',kill)):
 ∃z h' θ',mD P h b ats xs=some (z,h')/\RS θ' ρ0 ρ h0 h' S'/\VS θ' ρ r z/\∀v x,VS θ ρ v x->VS θ' ρ (jJ kill v) x:=by
 unfold gI at hl;split at hl
 ·rename_i st xt l x y;rw[aN] at hv;obtain⟨a,r1,rfl,h1,hv⟩:=hv;rw[aN] at hv;obtain⟨a2,r2,rfl,h2,hv⟩:=hv;rw[bj] at hv;subst hv;have:=Hw hR h1 h2 hl;exact this
 ·rename_i t l x xs';rw[aN] at hv;obtain⟨a,r1,rfl,h1,hv⟩:=hv;obtain⟨n,hn,hl⟩:=az hl;cases hl;have:=PZ hR h1 hn;refine⟨.int .i64 (n:Int),h,θ,?_,hR,?_,λv x h=>h⟩
  ·show(Fx P h t a).map (λv=>(v,h))=_;rw[this];rfl
  ·rw[VS]
 ·rename_i x l;rw[aN] at hv;obtain⟨a,r1,rfl,h1,hv⟩:=hv;obtain⟨n,hn,hl⟩:=az hl;cases hl;obtain⟨z,hz,kz⟩:=C5 h1 hv hn;refine⟨z,h,θ,?_,hR,kz,λv x h=>h⟩;unfold mD;split<;>simp_all
 ·rename_i x l;rw[aN] at hv;obtain⟨a,r1,rfl,h1,hv⟩:=hv;obtain⟨n,hn,hl⟩:=az hl;cases hl;obtain⟨z,hz,kz⟩:=C5 h1 hv hn;refine⟨z,h,θ,?_,hR,kz,λv x h=>h⟩;unfold mD;split<;>simp_all
 ·rename_i t l x k l';rw[aN] at hv;obtain⟨a,r1,rfl,h1,hv⟩:=hv;rw[aN] at hv;obtain⟨a2,r2,rfl,h2,hv⟩:=hv;obtain⟨S2,hS2,hl⟩:=az hl;cases hl;obtain⟨h',e1,e2⟩:=PB hR h1 h2 hS2;exact⟨_,h',θ,e1,e2,by rw[VS];rfl,λv x h=>h⟩
 ·rename_i dt l x y;rw[aN] at hv;obtain⟨a,r1,rfl,h1,hv⟩:=hv;rw[aN] at hv;obtain⟨a2,r2,rfl,h2,hv⟩:=hv;rw[bj] at hv;subst hv;exact M6 hR h1 h2 hl
 ·rename_i t l x;rw[aN] at hv;obtain⟨a,r1,rfl,h1,hv⟩:=hv;rw[bj] at hv;subst hv;exact KT hR h1 hl
 ·rename_i t l x;rw[aN] at hv;obtain⟨a,r1,rfl,h1,hv⟩:=hv;rw[bj] at hv;subst hv;obtain⟨⟨e,s⟩,hel,hl⟩:=ul hl;obtain⟨hu,_⟩:=gi hel;obtain⟨c,hc,hl⟩:=az hl;cases hl;obtain⟨o,n,e',rfl⟩:=Pr h1 hc;refine⟨.int .i64 (c:Int),h,θ,?_,hR,by rw[VS],λv x h=>h⟩;show(match P.underlying t with | some (.slice _)=>some (AV.int .i64 (ofNat c),h) | _=>none)=_;rw[hu];rfl
 ·cases hl
def Oe{c a b:Option SV}(h:J7 c a b=some v):∃z x y,c=some (.a (.bool z))/\a=some x/\b=some y/\v=cond z x y:=by
 unfold J7 at h;split at h
 ·cases h;exact⟨_,_,_,rfl,rfl,rfl,rfl⟩
 ·cases h
def FR.lB{f:Fm}{af:Nat->AV}{n:Nat}{kill:Option Nat}{wv:Nat->AV}(hF:FR θ ρ (aK f) af n wv)(hk:∀v x,VS θ ρ v x->VS θ' ρ (jJ kill v) x):FR θ' ρ (aK (Ev.lB f kill)) af n wv:=by
 refine⟨λi=>?_,hF.u⟩;have:=hk _ _ (hF.v i)
 cases kill with
 | none=>exact this
 | some o=>show VS θ' ρ (aK (bX o f) i) _;rw[ez];exact this
variable{f:Fm}{af:Nat->AV}{wv:Nat->AV}
def FR.put(hF:FR θ ρ (aK f) af n wv){d:Nat}(hd:d<n)(hv:VS θ ρ v x):FR θ ρ (aK ((d,v)::f)) (Au af d x) n wv:=by
 refine⟨λi=>?_,hF.u⟩;show VS θ ρ (if d=i then v else aK f i) _;by_cases hdi:d=i
 ·subst hdi;rw[ut rfl,ut hd,uD];exact hv
 ·rw[v6 hdi,rM _ _ (λe=>hdi e.symm)];exact hF.v i
def FR.kill{f:Fm}{af:Nat->AV}{n:Nat}{kill:Option Nat}{wv:Nat->AV}(hF:FR θ ρ (aK f) af n wv)(hk:∀v x,VS θ ρ v x->VS θ' ρ (jJ kill v) x){d:Nat}{v:SV}{x:AV}(hd:d<n)(hv:VS θ' ρ v x):FR θ' ρ (aK (pz f kill (some d) v)) (Au af d x) n wv:=(hF.lB hk).put hd hv
def OF(hR:RS θ ρ0 ρ h0 h S)(hF:FR θ ρ (aK f) af n wv){op:Op}{kill:Option Nat}(hop:dj P f S op=some (r,S',kill)):
 ∃rv h' θ',ew P (ei af n) h op=some [(rv,h')]/\RS θ' ρ0 ρ h0 h' S'/\VS θ' ρ r (TV rv)/\∀v x,VS θ ρ v x->VS θ' ρ (jJ kill v) x:=by
 have pure:∀{w:SV} {y:AV},ew P (ei af n) h op=some [(some y,h)]->VS θ ρ w y->some (w,S,(none:Option Nat))=some (r,S',kill)->∃rv h' θ',ew P (ei af n) h op=some [(rv,h')]/\RS θ' ρ0 ρ h0 h' S'/\VS θ' ρ r (TV rv)/\∀v x,VS θ ρ v x->VS θ' ρ (jJ kill v) x:=by
  intro w y h1 h2 h3;cases h3;exact⟨some y,h,θ,h1,hR,h2,λv x h=>h⟩
 have fresh:∀{so:SO} {ob:AO} {w:SV} {y:AV},ew P (ei af n) h op=some [(some y,{ h.lay h.next ob with next:=h.next+1 })]->((∃cs aS,so=.cells cs/\ob=.cells aS h.next/\c9 θ ρ cs aS)\/(so=.map [] [] none/\ob=.map [] 0))->VS (gB θ S.length ⟨h.next,h.next,h.next,h.next⟩) ρ w y->some (w,dS S so,some S.length)=some (r,S',kill)->∃rv h' θ',ew P (ei af n) h op=some [(rv,h')]/\RS θ' ρ0 ρ h0 h' S'/\VS θ' ρ r (TV rv)/\∀v x,VS θ ρ v x->VS θ' ρ (jJ kill v) x:=by
  intro so ob w y h1 h2 h3 h4;cases h4;obtain⟨k1,k2⟩:=hR.new h2;exact⟨some y,_,_,h1,k1,h3,k2⟩
 cases op with
 | move x=>
  obtain⟨v,hv,e⟩:=az hop;obtain⟨a,ha,ka⟩:=bP hF hv;exact pure (by rw[Qv,ha];rfl) ka (by rw[e])
 | assign x=>
  obtain⟨v,hv,e⟩:=az hop;obtain⟨a,ha,ka⟩:=bP hF hv;exact pure (by rw[Ly,ha];rfl) ka (by rw[e])
 | pick c a b=>
  obtain⟨v,hv,e⟩:=az hop;obtain⟨z,x,y,h1,h2,h3,rfl⟩:=Oe hv;obtain⟨c',g1,k1⟩:=bP hF h1;obtain⟨a',g2,k2⟩:=bP hF h2;obtain⟨b',g3,k3⟩:=bP hF h3;rw[VS] at k1;subst k1;exact pure (w:=cond z x y) (y:=cond z a' b') (by rw[Qw,g1,g2,g3];rfl) (by cases z;exact k3;exact k2) (by rw[e])
 | alloc e=>
  obtain⟨z,hz,he⟩:=az hop;exact fresh (w:=.ptr S.length 0) (so:=.cells (z.cells.map .a)) (ob:=.cells z.cells h.next) (by rw[N3,hz];rfl) (.inl ⟨_,_,rfl,rfl,c9.a _⟩) (by rw[VS,cF]) (by rw[he])
 | box e x=>
  obtain⟨v,hv,hop⟩:=ul hop;obtain⟨cs,hcs,he⟩:=az hop;obtain⟨a,ha,ka⟩:=bP hF hv;exact fresh (w:=.ptr S.length 0) (so:=.cells cs) (ob:=.cells a.cells h.next) (by rw[Sc,ha];rfl) (.inl ⟨_,_,rfl,rfl,uO ka hcs⟩) (by rw[VS,cF]) (by rw[he])
 | build tt ps=>
  obtain⟨l,hl,hop⟩:=ul hop;obtain⟨v,hv,he⟩:=az hop;obtain⟨aS,h1,k1⟩:=vy hF hl;obtain⟨a,ha,ka⟩:=KL k1 hv;exact pure (by rw[N5,h1,m7,ha];rfl) ka (by rw[he])
 | buildSlice tt m ps=>
  obtain⟨l,hl,hop⟩:=ul hop;obtain⟨q,hv,he⟩:=az hop;obtain⟨aS,h1,k1⟩:=vy hF hl;obtain⟨cs,ha,ka⟩:=xW k1 hv;exact fresh (w:=.buf S.length m q.1 (some m)) (so:=.cells q.2) (ob:=.cells cs h.next) (by rw[AM,h1,m7,ha];rfl) (.inl ⟨_,_,rfl,rfl,ka⟩) (by rw[VS,cF]) (by rw[he])
 | makeMap tt x=>
  cases x with
  | none=>
   have he:some ((SV.map S.length,dS S (.map [] [] none),some S.length):SV×List SO×Option Nat)=some (r,S',kill):=hop;exact fresh (w:=.map S.length) (so:=.map [] [] none) (ob:=.map [] 0) (by rw[Io]) (.inr ⟨rfl,rfl⟩) (by rw[VS,cF]) he
  | some _=>simp[dj] at hop
 | makeSlice tt l c=>
  simp only[dj] at hop;split at hop
  ·rename_i la ca hl hc;obtain⟨q,hq,he⟩:=az hop;obtain⟨l',g1,k1⟩:=bP hF hl;obtain⟨c',g2,k2⟩:=bP hF hc;rw[VS] at k1 k2;subst k1;subst k2;refine fresh (w:=.buf S.length q.1 q.2.1 (some q.2.2.1)) (so:=.cells (q.2.2.2.map .a)) (ob:=.cells q.2.2.2 h.next) (y:=.slice (some (h.next,0)) q.1 q.2.1 (some q.2.2.1)) ?_ (.inl ⟨_,_,rfl,rfl,c9.a _⟩) (by rw[VS,cF]) (by rw[he]);simp only[ew,pc,g1,g2,m7,hq,m6]
  ·cases hop
 | load tt a=>
  obtain⟨a',ha,hop⟩:=ul hop;obtain⟨v,hv,he⟩:=az hop;obtain⟨x,g1,k1⟩:=bP hF ha;obtain⟨y,g2,k2⟩:=Fy hR k1 hv;exact pure (by rw[Qt,g1,g2];rfl) k2 (by rw[he])
 | store tt a x=>
  obtain⟨a',ha,hop⟩:=ul hop;obtain⟨x',hx,hop⟩:=ul hop;obtain⟨S2,hS,he⟩:=az hop;cases he;obtain⟨p,g1,k1⟩:=bP hF ha;obtain⟨y,g2,k2⟩:=bP hF hx;obtain⟨h',θ',e1,e2,e3⟩:=LQ hR k1 k2 hS;exact⟨none,h',θ',by rw[Ob,g1,g2,e1];rfl,e2,by rw[VS];rfl,e3⟩
 | nilCheck x=>
  obtain⟨a',ha,hop⟩:=ul hop;obtain⟨v,hv,he⟩:=az hop;obtain⟨p,g1,k1⟩:=bP hF ha;obtain⟨e1,rfl⟩:=P5 (P:=P) k1 hv;refine pure (y:=p) ?_ k1 (by rw[he]);simp only[ew,g1,m7,e1,m6]
 | binOp op t x y yt=>
  obtain⟨x',hx,hop⟩:=ul hop;obtain⟨y',hy,hop⟩:=ul hop;obtain⟨xa,hxa,hop⟩:=ul hop;obtain⟨ya,hya,hop⟩:=ul hop;obtain⟨v,hv,he⟩:=az hop;obtain⟨p,g1,k1⟩:=bP hF hx;obtain⟨q,g2,k2⟩:=bP hF hy;have e1:=jD k1 hxa;have e2:=jD k2 hya;subst e1;subst e2;exact pure (w:=.a v) (y:=v) (by rw[N4,g1,g2,m7,m7,hv];rfl) (by rw[VS]) (by rw[he])
 | unOp op t x=>
  obtain⟨x',hx,hop⟩:=ul hop;obtain⟨xa,hxa,hop⟩:=ul hop;obtain⟨v,hv,he⟩:=az hop;obtain⟨p,g1,k1⟩:=bP hF hx;have e1:=jD k1 hxa;subst e1;exact pure (w:=.a v) (y:=v) (by rw[Tf,g1,m7,hv];rfl) (by rw[VS]) (by rw[he])
 | convert s d x=>
  obtain⟨x',hx,hop⟩:=ul hop;obtain⟨xa,hxa,hop⟩:=ul hop;obtain⟨v,hv,he⟩:=az hop;obtain⟨p,g1,k1⟩:=bP hF hx;have e1:=jD k1 hxa;subst e1;exact pure (w:=.a v) (y:=v) (by rw[Qp,g1,m7,hv];rfl) (by rw[VS]) (by rw[he])
 | makeInterface t x=>
  simp only[dj] at hop;obtain⟨hi,hop⟩:=aI hop;obtain⟨v,hv,he⟩:=az hop;obtain⟨p,g1,k1⟩:=bP hF hv;refine pure (w:=.iface t v) (y:=.iface t p) ?_ (by rw[VS];exact⟨p,rfl,k1⟩) (by rw[he]);unfold JQ at hi
  cases hu:P.underlying t with
  | none=>rw[hu] at hi;cases hi
  | some d=>
   rw[hu] at hi;rw[N7 hu (by cases d<;>first | rfl | cases hi),g1];rfl
 | makeFunc g first cap=>
  cases g with
  | func g=>
   obtain⟨a,ha,hop⟩:=ul hop;obtain⟨b,hb,he⟩:=az hop;obtain⟨p,g1,k1⟩:=ma hF ha;obtain⟨q,g2,k2⟩:=ma hF hb;exact pure (w:=.fn g a b) (y:=.fn (.func g) p q) (by rw[Qq,g1,g2];rfl) (by rw[VS];exact⟨p,q,rfl,k1,k2⟩) (by rw[he])
  | method nm=>
   obtain⟨a,ha,hop⟩:=ul hop;obtain⟨a2,ha2,hop⟩:=ul hop;obtain⟨b,hb,hop⟩:=ul hop;obtain⟨b2,hb2,he⟩:=az hop;obtain⟨p,g1,k1⟩:=ma hF ha;obtain⟨q,g2,k2⟩:=ma hF hb;have e1:=ox k1 ha2;have e2:=ox k2 hb2;subst e1;subst e2;exact pure (w:=.a (.fn (.method nm) p q)) (y:=.fn (.method nm) p q) (by rw[Qu,g1,g2];rfl) (by rw[VS]) (by rw[he])
  | _=>simp[dj] at hop
 | slice tt x lo hi mx=>
  obtain⟨x',hx,hop⟩:=ul hop;obtain⟨lo',hlo,hop⟩:=ul hop;obtain⟨hi',hhi,hop⟩:=ul hop;obtain⟨mx',hmx,hop⟩:=ul hop;obtain⟨v,hv,he⟩:=az hop;obtain⟨p,g1,k1⟩:=bP hF hx;obtain⟨y,g2,k2⟩:=LO (h:=h) k1 hv;refine pure (y:=y) ?_ k2 (by rw[he]);rw[N9,g1,Dt hF hlo,Dt hF hhi,Dt hF hmx];simp only[m7,g2,m6]
 | fieldAddr s x fl=>
  obtain⟨x',hx,hop⟩:=ul hop;obtain⟨v,hv,he⟩:=az hop;obtain⟨p,g1,k1⟩:=bP hF hx;obtain⟨y,g2,k2⟩:=AB k1 hv;exact pure (by rw[Dd,g1,m7,g2];rfl) k2 (by rw[he])
 | field s x fl=>
  obtain⟨x',hx,hop⟩:=ul hop;obtain⟨v,hv,he⟩:=az hop;obtain⟨p,g1,k1⟩:=bP hF hx;obtain⟨y,g2,k2⟩:=K7 k1 hv;exact pure (by rw[N6,g1,m7,g2];rfl) k2 (by rw[he])
 | indexAddr t x i=>
  obtain⟨x',hx,hop⟩:=ul hop;obtain⟨i',hi,hop⟩:=ul hop;obtain⟨v,hv,he⟩:=az hop;obtain⟨p,g1,k1⟩:=bP hF hx;obtain⟨q,g3,k3⟩:=bP hF hi;obtain⟨y,g2,k2⟩:=AF k1 k3 hv;exact pure (by rw[De,g1,g3,m7,m7,g2];rfl) k2 (by rw[he])
 | index t x i=>
  obtain⟨x',hx,hop⟩:=ul hop;obtain⟨i',hi,hop⟩:=ul hop;obtain⟨v,hv,he⟩:=az hop;obtain⟨p,g1,k1⟩:=bP hF hx;obtain⟨q,g3,k3⟩:=bP hF hi;obtain⟨y,g2,k2⟩:=Ld k1 k3 hv;exact pure (by rw[N8,g1,g3,m7,m7,g2];rfl) k2 (by rw[he])
 | lookup t x k ok=>
  obtain⟨x',hx,hop⟩:=ul hop;obtain⟨i',hi,hop⟩:=ul hop;obtain⟨v,hv,he⟩:=az hop;obtain⟨p,g1,k1⟩:=bP hF hx;obtain⟨q,g3,k3⟩:=bP hF hi;obtain⟨y,g2,k2⟩:=H7 hR k1 k3 hv;exact pure (by rw[Lz,g1,g3,m7,m7,g2];rfl) k2 (by rw[he])
 | mapUpdate t m k x=>
  obtain⟨m',hm,hop⟩:=ul hop;obtain⟨k',hk,hop⟩:=ul hop;obtain⟨x',hx,hop⟩:=ul hop;obtain⟨S2,hS,he⟩:=az hop;cases he;obtain⟨p,g1,k1⟩:=bP hF hm;obtain⟨q,g2,k2⟩:=bP hF hk;obtain⟨y,g3,k3⟩:=bP hF hx;obtain⟨h',e1,e2⟩:=yO hR k1 k2 k3 hS;refine⟨none,h',θ,?_,e2,by rw[VS];rfl,λv x h=>h⟩;rw[Df,g1,g2,g3];simp only[m7,e1,m6]
 | insert t m k x=>
  obtain⟨m',hm,hop⟩:=ul hop;obtain⟨k',hk,hop⟩:=ul hop;obtain⟨x',hx,hop⟩:=ul hop;obtain⟨S2,hS,he⟩:=az hop;cases he;obtain⟨p,g1,k1⟩:=bP hF hm;obtain⟨q,g2,k2⟩:=bP hF hk;obtain⟨y,g3,k3⟩:=bP hF hx;obtain⟨h',e1,e2⟩:=yO hR k1 k2 k3 hS;refine⟨none,h',θ,?_,e2,by rw[VS];rfl,λv x h=>h⟩;simp only[ew,g1,g2,g3,m7,e1,m6]
 | extract x i=>
  simp only[dj] at hop;split at hop
  ·rename_i vs hx;obtain⟨v,hv,he⟩:=az hop;obtain⟨p,g1,k1⟩:=bP hF hx;rw[VS] at k1;obtain⟨aS,rfl,k1⟩:=k1;obtain⟨y,g2,k2⟩:=k1.get hv;refine pure (y:=y) ?_ k2 (by rw[he]);rw[Im,g1];simp only[Bp,g2,m6]
  ·cases hop
 | call c=>
  obtain⟨callee,args,ats⟩:=c
  cases callee with
  | builtin b=>
   obtain⟨xs,hxs,hop⟩:=ul hop;obtain⟨p,g1,k1⟩:=ma hF hxs;obtain⟨z,h',θ',e1,e2,e3,e4⟩:=EJ hR k1 hop;refine⟨some z,h',θ',?_,e2,e3,e4⟩;rw[Il,g1,m7,e1];rfl
  | _=>simp[dj] at hop
 | _=>simp[dj] at hop
end
structure eu where
 f:Fm
 n:Nat
 S:List SO
 ds:List jv
def SH(ds:List jv)(j:Nat):AV:=match ds.reverse[j]? with
 | some d=>match d.fn with
  | some f=>.fn f d.args d.cap
  | none=>lK
 | none=>lK
def Hj(w:Nat->AV):List jv->Nat->AV
 | [],i=>w i
 | d::ds,i=>if 7000000<=i then SH (d::ds) (i-7000000) else w i
def jz(ρ0:j6)(h0:En)(st:eu)(ast:gZ):Prop:=ast.n=st.n/\ast.ds=st.ds/\∃θ ρ,RS θ ρ0 ρ h0 ast.h st.S/\FR θ ρ (aK st.f) ast.f st.n (Hj h0.w ast.ds)
def SX(ρ0:j6)(h0:En)(N:Nat)(Q:Ex->eu->Prop):Ex->gZ->Prop:=λex ast=>∃st,Q ex st/\st.n=N/\jz ρ0 h0 st ast
def aG(P:Program)(ro:Option Nat)(c:Code)(st:eu)(Q:Ex->eu->Prop):Prop:=∀ρ0 h0 ast,jz ρ0 h0 st ast->lL P ro c ast (SX ρ0 h0 st.n Q)
def aL(P:Program)(ro:Option Nat)(all l:List Oper)(st:eu)(K:eu->Prop):Prop:=∀ρ0 h0 ast,jz ρ0 h0 st ast->jw P ro all l ast (λast'=>∃st',K st'/\st'.n=st.n/\jz ρ0 h0 st' ast')
section
variable {P:Program} {ro:Option Nat}
def aG.mono{c:Code}{st:eu}{Q Q':Ex->eu->Prop}(h:aG P ro c st Q)(hq:∀e x,Q e x->Q' e x):aG P ro c st Q':=
 λρ0 h0 ast hs=>(h ρ0 h0 ast hs).mono λ_ _ ⟨x,h1,h2⟩=>⟨x,hq _ _ h1,h2⟩
def aG.skip{st:eu}{Q:Ex->eu->Prop}(h:Q .normal st):aG P ro .skip st Q:=λ_ _ _ hs=>.skip ⟨st,h,rfl,hs⟩
def aG.exit{id:Nat}{st:eu}{Q:Ex->eu->Prop}(h:Q (.exit id) st):aG P ro (.exit id) st Q:=λ_ _ _ hs=>.exit ⟨st,h,rfl,hs⟩
def aG.ret{st:eu}{Q:Ex->eu->Prop}(h:Q .ret st):aG P ro .ret st Q:=λ_ _ _ hs=>.ret ⟨st,h,rfl,hs⟩
def c8(P:Program)(ro:Option Nat)(y:Code)(Q:Ex->eu->Prop):Ex->eu->Prop
 | .normal,st=>aG P ro y st Q
 | e,st=>Q e st
def aG.seq{x y:Code}{st:eu}{Q:Ex->eu->Prop}(h:aG P ro x st (c8 P ro y Q)):aG P ro (.seq x y) st Q:=by
 intro ρ0 h0 ast hs;refine .seq ((h ρ0 h0 ast hs).mono ?_);rintro e a ⟨st',h1,h2,h3⟩
 cases e with
 | normal=>
  have:=h1 ρ0 h0 a h3;rw[h2] at this;exact this
 | _=>exact⟨st',h1,h2,h3⟩
def aG.cond{c:Operand}{x y:Code}{st:eu}{Q:Ex->eu->Prop}{b:Bool}(hc:eP st.f c=some (.a (.bool b)))(h1:b=true->aG P ro x st Q)(h2:b=false->aG P ro y st Q):aG P ro (.cond c x y) st Q:=by
 intro ρ0 h0 ast hs;obtain⟨a1,a2,θ,ρ,hR,hF⟩:=hs;rw[<-a1] at hF;obtain⟨a,ha,ka⟩:=bP hF hc;rw[VS] at ka;subst ka;refine .cond ha (λh=>h1 h ρ0 h0 ast ⟨a1,a2,θ,ρ,hR,by rw[<-a1];exact hF⟩) (λh=>h2 h ρ0 h0 ast ⟨a1,a2,θ,ρ,hR,by rw[<-a1];exact hF⟩)
variable{Q:Ex->eu->Prop}
def aG.yes{c:Operand}{x y:Code}{st:eu}(hc:eP st.f c=some (.a (.bool true)))(h1:aG P ro x st Q):aG P ro (.cond c x y) st Q:=.cond hc (λ_=>h1) gt
def aG.no{c:Operand}{x y:Code}{st:eu}(hc:eP st.f c=some (.a (.bool false)))(h1:aG P ro y st Q):aG P ro (.cond c x y) st Q:=.cond hc gt (λ_=>h1)
def eN(id:Nat)(Q:Ex->eu->Prop):Ex->eu->Prop
 | .exit i,st=>if i=id then Q .normal st else Q (.exit i) st
 | e,st=>Q e st
def aG.block{id:Nat}{x:Code}{st:eu}{Q:Ex->eu->Prop}(h:aG P ro x st (eN id Q)):aG P ro (.block id x) st Q:=by
 intro ρ0 h0 ast hs;refine .block ((h ρ0 h0 ast hs).mono ?_);rintro e a ⟨st',h1,h2,h3⟩
 cases e with
 | exit i=>
  simp only[eN] at h1;simp only[Mr];by_cases hi:i=id
  ·rw[ut hi] at h1 ⊢;exact⟨st',h1,h2,h3⟩
  ·rw[v6 hi] at h1 ⊢;exact⟨st',h1,h2,h3⟩
 | _=>exact⟨st',h1,h2,h3⟩
def Fg(st st':eu):Prop:=st'.n=st.n/\∀ρ0 h0 ast,jz ρ0 h0 st ast->jz ρ0 h0 st' ast
def Fg.trans{a b c:eu}(h1:Fg a b)(h2:Fg b c):Fg a c:=⟨h2.1.trans h1.1,λ_ _ _ h=>h2.2 _ _ _ (h1.2 _ _ _ h)⟩
def aG.fg{c:Code}{st st':eu}(hf:Fg st st')(h:aG P ro c st' Q):aG P ro c st Q:=by
 intro ρ0 h0 ast hs;have:=h ρ0 h0 ast (hf.2 _ _ _ hs);rw[hf.1] at this;exact this
def bW(I:Nat->eu->Prop)(m:Nat)(Q:Ex->eu->Prop):Ex->eu->Prop
 | .normal,st=>∃k st',k<m/\Fg st st'/\I k st'
 | e,st=>Q e st
def aG.loop{x:Code}{st:eu}{Q:Ex->eu->Prop}(I:Nat->eu->Prop)(m:Nat){st0:eu}(hf:Fg st st0)(h0:I m st0)(hn:∀m st',I m st'->st'.n=st.n)(h:∀m st,I m st->aG P ro x st (bW I m Q)):aG P ro (.loop x) st Q:=by
 intro ρ0 hh ast hs;refine .loop (λm a=>∃st',I m st'/\jz ρ0 hh st' a) m ⟨st0,h0,hf.2 _ _ _ hs⟩ ?_;rintro k a ⟨st1,hI,hst⟩;refine(h k st1 hI ρ0 hh a hst).mono ?_;rintro e a' ⟨st',h1,h2,h3⟩;have hn1:=hn _ _ hI
 cases e with
 | normal=>
  obtain⟨k',st2,hk,hfg,hI2⟩:=h1;exact⟨k',hk,st2,hI2,hfg.2 _ _ _ h3⟩
 | _=>exact⟨st',h1,h2.trans hn1,h3⟩
def bK(Q:Ex->eu->Prop):Ex->eu->Prop
 | .goto _,_=>False
 | e,st=>Q e st
def aG.region{id:Nat}{ops:Array Oper}{st:eu}{Q:Ex->eu->Prop}(h:aL P ro ops.toList ops.toList st (Q .normal)):aG P ro (.region id ops false) st Q:=by
 intro ρ0 h0 ast hs;obtain⟨f,n,hh,ds⟩:=ast;refine .region ?_;have:=h ρ0 h0 _ hs;intro ops i h1 h2 F n σ a w Q' h3 h4 h5;exact this ops i h1 h2 F n σ a w Q' h3 h4 λst' a' w' σ' h6=>h5 st' a' w' σ' (by obtain⟨x,k1,k2,k3⟩:=h6;exact⟨x,k1,k2,k3⟩)
def uF(ops:List Oper)(f:Fm)(n:Nat)(o:Oper):Option Bool:=match o.guard with
 | none=>some true
 | some (j,want)=>match (ops[j]?).bind (·.dst) with
  | some d=>_root_.cond (blt d n) (match aK f d with
   | .a (.bool b)=>some (b==want)
   | .a (.cx [])=>some false
   | _=>none) none
  | none=>none
variable{f:Fm}{af:Nat->AV}{n:Nat}{wv:Nat->AV}
def dr{θ:Nat->Loc}{ρ:j6}{ops:List Oper}(hF:FR θ ρ (aK f) af n wv){o:Oper}{b:Bool}(h:uF ops f n o=some b):kM ops af n o=some b:=by
 unfold uF at h;unfold kM;split at h
 ·rename_i hg;rw[hg];exact h
 ·rename_i j want hg;rw[hg];simp only;split at h
  ·rename_i d hd;obtain⟨hlt,h2⟩:=aI h;have:=hF.v d;rw[ut (fK hlt)] at this;rw[hd];simp only;rw[hlt,ak];split at h2
   ·rename_i hx;rw[hx,VS] at this;rw[this];exact h2
   ·rename_i hx;rw[hx,VS] at this;rw[this];exact h2
   ·cases h2
  ·cases h
def de(all:List Oper)(n:Nat)(l:List Oper):Bool:=l.all λo=>yc o.dst n&&(match o.guard with
 | none=>true
 | some (j,_)=>match (all[j]?).bind (·.dst) with
  | some d=>blt d n
  | none=>false)
def KA(want:Bool):SV->Option Bool
 | .a (.bool b)=>some (_root_.cond want b (!b))
 | .a (.cx [])=>some false
 | _=>none
def bM(all:List Oper)(f:Fm)(g:Option (Nat×Bool)):Option Bool:=match g with
 | none=>some true
 | some (j,want)=>(all[j]?).bind λo=>o.dst.bind λd=>KA want (aK f d)
def e8{all:List Oper}{o:Oper}{l:List Oper}{b:Bool}(hs:de all n (o::l)=true)(h:bM all f o.guard=some b):uF all f n o=some b:=by
 unfold de at hs;rw[cl,ac,ac] at hs;have hs2:=hs.1.2;unfold bM at h;unfold uF
 cases hg:o.guard with
 | none=>rw[hg] at h;exact h
 | some q=>
  obtain⟨j,want⟩:=q;rw[hg] at h hs2;simp only at h hs2 ⊢;obtain⟨oj,hj,h⟩:=ul h;obtain⟨d,hd,h⟩:=ul h;rw[hj,m7,hd] at hs2 ⊢;simp only at hs2 ⊢;rw[hs2,ak];unfold KA at h;split at h
  ·rename_i b' hb;cases want<;>cases b'<;>exact h
  ·exact h
  ·cases h
def fD{all:List Oper}{o:Oper}{l:List Oper}(hs:de all n (o::l)=true):yc o.dst n=true/\de all n l=true:=by
 unfold de at hs ⊢;rw[cl,ac,ac] at hs;exact⟨hs.1.1,hs.2⟩
def oT(P:Program)(all:List Oper):List Oper->Fm->List SO->List Oper×Fm×List SO
 | [],f,S=>([],f,S)
 | o::l,f,S=>match bM all f o.guard with
  | some true=>match dj P f S o.op with
   | some q=>oT P all l (pz f q.2.2 o.dst q.1) q.2.1
   | none=>(o::l,f,S)
  | some false=>match o.dst with
   | some d=>oT P all l ((d,.a lK)::f) S
   | none=>(o::l,f,S)
  | none=>(o::l,f,S)
def aL.nil{all:List Oper}{st:eu}{K:eu->Prop}(h:K st):aL P ro all [] st K:=λ_ _ _ hs=>.nil ⟨st,h,rfl,hs⟩
variable{S:List SO}
def B1{op:Op}{q:SV×List SO×Option Nat}(h:dj P f S op=some q):tK op=true:=by
 cases op<;>first | rfl | (simp[dj] at h;done)
def aL.run{all:List Oper}{ds:List jv}{n:Nat}{K:eu->Prop}:∀{l l':List Oper} {f f':Fm} {S S':List SO},de all n l=true->oT P all l f S=(l',f',S')->aL P ro all l' ⟨f',n,S',ds⟩ K->aL P ro all l ⟨f,n,S,ds⟩ K
 | [],l',f,f',S,S',_,h,hk=>by
  simp only[oT,m8] at h;obtain⟨rfl,rfl,rfl⟩:=h;exact hk
 | o::l,l',f,f',S,S',hst,h,hk=>by
  have stop:(o::l,f,S)=(l',f',S')->aL P ro all (o::l) ⟨f,n,S,ds⟩ K:=by
   intro e;simp only[m8] at e;obtain⟨rfl,rfl,rfl⟩:=e;exact hk
  obtain⟨hd,hst2⟩:=fD hst;unfold oT at h;split at h
  ·rename_i hw;have hw:=e8 hst hw;split at h
   ·rename_i q hop;obtain⟨v,S1,kill⟩:=q;rintro ρ0 h0 ⟨af,n',hh,ds'⟩ ⟨rfl,rfl,θ,ρ,hR,hF⟩;obtain⟨rv,h',θ',e1,e2,e3,e4⟩:=OF hR hF hop;refine .cons (dr hF hw) (.run (B1 hop) hd e1 ?_);intro x hx;rw[t6 hx];refine aL.run hst2 h hk ρ0 h0 _ ⟨rfl,rfl,θ',ρ,e2,?_⟩
    cases hdd:o.dst with
    | none=>exact hF.lB e4
    | some d=>rw[hdd] at hd;cases rv<;>exact hF.kill e4 (fK hd) e3
   ·exact stop h
  ·rename_i hw;have hw:=e8 hst hw;split at h
   ·rename_i d hdst;rw[hdst] at hd;rintro ρ0 h0 ⟨af,n',hh,ds'⟩ ⟨rfl,rfl,θ,ρ,hR,hF⟩;refine .s hdst (dr hF hw) hd ?_;exact aL.run hst2 h hk ρ0 h0 _ ⟨rfl,rfl,θ,ρ,hR,hF.put (fK hd) (by rw[VS])⟩
   ·exact stop h
  ·exact stop h
end
mutual
inductive Wk (S:List SO):SV->SV->Prop
 | any (v:SV):Wk S v .any
 | a (v:AV):Wk S (.a v) (.a v)
 | sl (n e:Nat) (cs:List SV):Wk S (.sl n e cs) (.sl n e cs)
 | im (ks:List AV) (vs:List SV):Wk S (.im ks vs) (.im ks vs)
 | ip (cs:List SV):Wk S (.ip cs) (.ip cs)
 | nil (e:Nat):Wk S (.a (.slice none 0 0 (some 0))) (.sl 0 e [])
 | ptr {o off:Nat} {cs ds:List SV}:S[o]?=some (.cells cs)->cu S (cs.drop off) ds->off<=cs.length->Wk S (.ptr o off) (.ip ds)
 | buf {o n e:Nat} {c:Option Nat} {cs ds:List SV}:S[o]?=some (.cells cs)->cu S (cs.take (n*e)) ds->n*e<=cs.length->Wk S (.buf o n e c) (.sl n e ds)
 | sub {o off n e:Nat} {c:Option Nat} {cs ds:List SV}:S[o]?=some (.cells cs)->cu S ((cs.drop off).take (n*e)) ds->off+n*e<=cs.length->Wk S (.sub o off n e c) (.sl n e ds)
 | e0 (e:Nat):Wk S (.e0 e) (.e0 e)
 | SI (e:Nat):Wk S (.e0 e) (.sl 0 e [])
 | map {o:Nat} {ks:List AV} {vs ws:List SV} {b:Option (List Nat×Nat)}:S[o]?=some (.map ks vs b)->cu S vs ws->Wk S (.map o) (.im ks ws)
 | ag {cs ds:List SV}:cu S cs ds->Wk S (.ag cs) (.ag ds)
 | cx {cs ds:List SV}:cu S cs ds->Wk S (.cx cs) (.cx ds)
 | fn {g:FuncId} {a b c d:List SV}:cu S a c->cu S b d->Wk S (.fn g a b) (.fn g c d)
 | iface {t:TypeId} {v w:SV}:Wk S v w->Wk S (.iface t v) (.iface t w)
inductive cu (S:List SO):List SV->List SV->Prop
 | nil:cu S [] []
 | cons {v w:SV} {vs ws:List SV}:Wk S v w->cu S vs ws->cu S (v::vs) (w::ws)
end
def oR(θ:Nat->Loc)(ρ:j6)(h:H)(S:List SO):j6:=λid=>match ρ id with
 | some ob=>some ob
 | none=>@ite _ (∃o so,S[o]?=some so/\so≠.gone/\(θ o).id=id) (Classical.propDecidable _) (h.aW.get id) none
section
variable {θ:Nat->Loc} {ρ ρ0:j6} {P:Program} {h0:En} {h:H} {S:List SO}
variable{id:Nat}
def qJ{ob:AO}(hi:ρ id=some ob):oR θ ρ h S id=some ob:=by unfold oR;rw[hi]
variable{o:Nat}{so:SO}
def tT(hR:RS θ ρ0 ρ h0 h S)(hS:S[o]?=some so)(hg:so≠.gone):oR θ ρ h S (θ o).id=h.aW.get (θ o).id:=by
 unfold oR
 cases hr:ρ (θ o).id with
 | some ob=>rw[(hR.row _ _ hr).2.1]
 | none=>simp only;rw[ut ⟨o,so,hS,hg,rfl⟩]
mutual
def Wk.ok(hR:RS θ ρ0 ρ h0 h S):∀{v w:SV} {x:AV},Wk S v w->VS θ ρ v x->GS (oR θ ρ h S) w x
 | _,_,_,.any v,_=>by rw[GS];trivial
 | _,_,_,.a v,hv=>by rw[VS] at hv;rw[GS];exact hv
 | _,_,_,.sl n e cs,hv=>by rw[VS] at hv;exact hv.mono λ_ _ h=>qJ h
 | _,_,_,.im ks vs,hv=>by rw[VS] at hv;exact hv.mono λ_ _ h=>qJ h
 | _,_,_,.ip cs,hv=>by rw[VS] at hv;exact hv.mono λ_ _ h=>qJ h
 | _,_,_,.nil e,hv=>by
  rw[VS] at hv;subst hv;rw[GS];exact .inl ⟨rfl,rfl,none,0,some 0,rfl,λ_=>rfl,λh=>un rfl h⟩
 | _,_,_,@Wk.ptr _ o off cs ds hS hw hle,hv=>by
  rw[VS] at hv;subst hv;obtain⟨_,aS,q1,q2,_⟩:=hR.obj o _ hS gt;rw[GS];refine⟨_,off,aS,aS.length-off,rfl,?_,?_,?_⟩
  ·unfold vw;rw[tT hR hS gt,q1]
  ·rw[q2.length];omega
  ·have:=cu.ok hR hw (q2.drop off);rw[ch (by rw[bh];exact bw _)];exact this
 | _,_,_,@Wk.buf _ o n e c cs ds hS hw hle,hv=>by
  rw[VS] at hv;subst hv;obtain⟨_,aS,q1,q2,_⟩:=hR.obj o _ hS gt;rw[GS];refine .inr ⟨_,0,c,aS,rfl,?_,by rw[q2.length];omega,?_⟩
  ·unfold vw;rw[tT hR hS gt,q1]
  ·rw[b7];exact cu.ok hR hw (q2.take _)
 | _,_,_,@Wk.sub _ o off n e c cs ds hS hw hle,hv=>by
  rw[VS] at hv;subst hv;obtain⟨_,aS,q1,q2,_⟩:=hR.obj o _ hS gt;rw[GS];refine .inr ⟨_,off,c,aS,rfl,?_,by rw[q2.length];omega,?_⟩
  ·unfold vw;rw[tT hR hS gt,q1]
  ·exact cu.ok hR hw ((q2.drop off).take _)
 | _,_,_,.e0 e,hv=>by rw[VS] at hv;rw[GS];exact hv
 | _,_,_,.SI e,hv=>by
  rw[VS] at hv;obtain⟨o,e',rfl,ho⟩:=hv;rw[GS];exact .inl ⟨rfl,rfl,o,e',some 0,rfl,λ_=>rfl,ho⟩
 | _,_,_,@Wk.map _ o ks vs ws b hS hw,hv=>by
  rw[VS] at hv;subst hv;obtain⟨_,l,c,q1,q2,q3⟩:=hR.obj o _ hS gt;rw[GS];exact⟨_,l,c,rfl,by rw[tT hR hS gt,q1],⟨q2.1,q2.2.1,λp hp=>by cases hp⟩,cu.ok hR hw q3⟩
 | _,_,_,.ag hw,hv=>by rw[VS] at hv;obtain⟨aS,h1,h2⟩:=hv;rw[GS];exact⟨aS,h1,cu.ok hR hw h2⟩
 | _,_,_,.cx hw,hv=>by rw[VS] at hv;obtain⟨aS,h1,h2⟩:=hv;rw[GS];exact⟨aS,h1,cu.ok hR hw h2⟩
 | _,_,_,.fn hw1 hw2,hv=>by rw[VS] at hv;obtain⟨xs,ys,h1,h2,h3⟩:=hv;rw[GS];exact⟨xs,ys,h1,cu.ok hR hw1 h2,cu.ok hR hw2 h3⟩
 | _,_,_,.iface hw,hv=>by rw[VS] at hv;obtain⟨y,h1,h2⟩:=hv;rw[GS];exact⟨y,h1,Wk.ok hR hw h2⟩
def cu.ok(hR:RS θ ρ0 ρ h0 h S):∀{vs ws:List SV} {xs:List AV},cu S vs ws->c9 θ ρ vs xs->jR (oR θ ρ h S) ws xs
 | _,_,_,.nil,hv=>by rw[bj] at hv;rw[eU];exact hv
 | _,_,_,.cons h1 h2,hv=>by
  rw[aN] at hv;obtain⟨a,r,rfl,k1,k2⟩:=hv;rw[dO];exact⟨a,r,rfl,Wk.ok hR h1 k1,cu.ok hR h2 k2⟩
end
def RS.C9(hR:RS θ ρ0 ρ h0 h S):RS θ ρ0 ρ h0 h []:=⟨hR.ok,hR.nx,hR.ob,hR.fm,hR.lw,hR.ln,λo so h=>by simp at h,λo o' so so' _ h=>by simp at h,λid ob hi=>⟨(hR.row id ob hi).1,(hR.row id ob hi).2.1,λo so h=>by simp at h⟩,hR.mu⟩
def yY:oR θ ρ h []=ρ:=by
 funext id;unfold oR
 cases hr:ρ id with
 | some ob=>rfl
 | none=>simp only;rw[v6];rintro⟨o,so,h,_⟩;simp at h
def Mt(ρ:j6)(h:H):Prop:=∀id ob,ρ id=some ob->id<h.next/\h.aW.get id=some ob
def SQ(h:H)(ρ ρ':j6)(h':H):Prop:=∀id ob,ρ' id=some ob->ρ id=some ob\/(h.next<=id/\id<h'.next/\h'.aW.get id=some ob)
def pL(hR:RS θ ρ0 ρ h0 h S):Mt (oR θ ρ h S) h:=by
 intro id ob hi;unfold oR at hi
 cases hr:ρ id with
 | some ob'=>rw[hr] at hi;cases hi;exact⟨(hR.row id _ hr).1,(hR.row id _ hr).2.1⟩
 | none=>
  rw[hr] at hi;simp only at hi;split at hi
  ·rename_i hex;obtain⟨o,so,h1,h2,rfl⟩:=hex;obtain⟨⟨k1,k2,k3,_⟩,_⟩:=hR.obj o so h1 h2;exact⟨by rcases k1 with e | e<;>omega,hi⟩
  ·cases hi
def PC(P:Program)(g:FuncId)(args:List SV)(Q:SV->Prop):Prop:=∀ρ h avs,Mt ρ h->jR ρ args avs->
 dZ P (.func g) avs h (λv h'=>∃r ρ',Q r/\Over h.next h h'/\SQ h ρ ρ' h'/\GS ρ' r v)
mutual
def vJ:SV->Bool
 | .any=>true
 | .a _=>true
 | .ag cs=>HT cs
 | .cx cs=>HT cs
 | _=>false
def HT:List SV->Bool
 | []=>true
 | d::ds=>vJ d&&HT ds
end
mutual
def GS.flat{ρ':j6}:∀{r:SV} {x:AV},vJ r=true->GS ρ' r x->VS θ ρ r x
 | .any,_,_,_=>by rw[VS];trivial
 | .a v,x,_,hg=>by rw[GS] at hg;rw[VS];exact hg
 | .ag cs,x,hf,hg=>by rw[vJ] at hf;rw[GS] at hg;obtain⟨aS,h1,h2⟩:=hg;rw[VS];exact⟨aS,h1,jR.flat hf h2⟩
 | .cx cs,x,hf,hg=>by rw[vJ] at hf;rw[GS] at hg;obtain⟨aS,h1,h2⟩:=hg;rw[VS];exact⟨aS,h1,jR.flat hf h2⟩
 | .sl _ _ _,_,hf,_=>by simp[vJ] at hf
 | .im _ _,_,hf,_=>by simp[vJ] at hf
 | .ip _,_,hf,_=>by simp[vJ] at hf
 | .ptr _ _,_,hf,_=>by simp[vJ] at hf
 | .map _,_,hf,_=>by simp[vJ] at hf
 | .buf _ _ _ _,_,hf,_=>by simp[vJ] at hf
 | .sub _ _ _ _ _,_,hf,_=>by simp[vJ] at hf
 | .e0 _,_,hf,_=>by simp[vJ] at hf
 | .fn _ _ _,_,hf,_=>by simp[vJ] at hf
 | .iface _ _,_,hf,_=>by simp[vJ] at hf
def jR.flat{ρ':j6}:∀{rs:List SV} {xs:List AV},HT rs=true->jR ρ' rs xs->c9 θ ρ rs xs
 | [],xs,_,hg=>by rw[eU] at hg;rw[bj];exact hg
 | d::ds,xs,hf,hg=>by
  rw[HT,ac] at hf;rw[dO] at hg;obtain⟨a,r,rfl,h1,h2⟩:=hg;rw[aN];exact⟨a,r,rfl,GS.flat hf.1 h1,jR.flat hf.2 h2⟩
end
def iE(P:Program)(f:Fm)(c:Call):Option (FuncId×List SV):=match c.callee with
 | .value x=>match eP f x with
  | some (.fn g first cap)=>(pO f c.args.toList).map λxs=>(g,(first++xs)++cap)
  | _=>none
 | .invoke r name=>match eP f r with
  | some (.iface t v)=>(jd P t name).bind λg=>(pO f c.args.toList).map λxs=>(g,v::xs)
  | _=>none
 | .builtin _=>none
variable{f:Fm}{af:Nat->AV}{n:Nat}{wv:Nat->AV}{vs:List SV}
def xX(hF:FR θ ρ (aK f) af n wv){c:Call}{g:FuncId}(hc:iE P f c=some (g,vs)):∃xs cap,pj P (ei af n) c=some (.func g,xs,cap)/\c9 θ ρ vs (xs++cap):=by
 unfold iE at hc;unfold pj;split at hc
 ·rename_i x hx;rw[hx];simp only;split at hc
  ·rename_i g' first cap hv
   obtain⟨xs,hxs,e⟩:=az hc;cases e;obtain⟨a,ha,ka⟩:=bP hF hv;rw[VS] at ka;obtain⟨fs,cs,rfl,k1,k2⟩:=ka;obtain⟨aS,hs,ks⟩:=ma hF hxs;rw[ha];simp only;rw[hs];exact⟨fs++aS,cs,rfl,(k1.app ks).app k2⟩
  ·cases hc
 ·rename_i r name hx;rw[hx];simp only;split at hc
  ·rename_i t v hv;obtain⟨g',hg,hc⟩:=ul hc;obtain⟨xs,hxs,e⟩:=az hc;cases e;obtain⟨a,ha,ka⟩:=bP hF hv;rw[VS] at ka;obtain⟨y,rfl,k1⟩:=ka;obtain⟨aS,hs,ks⟩:=ma hF hxs;rw[ha];simp only;rw[hg,m7,hs];refine⟨y::aS,[],rfl,?_⟩;rw[List.append_nil,aN];exact⟨y,aS,rfl,k1,ks⟩
  ·cases hc
 ·cases hc
def ni.mono{ρ':j6}{h':H}{L:Loc}{so:SO}(hx:ni θ ρ h L so)(hm:∀id ob,ρ id=some ob->ρ' id=some ob)(ho:h'.aW.get L.id=h.aW.get L.id)(hf:h'.dC.get L.bV=h.dC.get L.bV):ni θ ρ' h' L so:=by
 cases so with
 | cells cs=>obtain⟨aS,h1,h2,h3⟩:=hx;exact⟨aS,by rw[ho];exact h1,h2.mono hm,by rw[hf];exact h3⟩
 | map ks vs b=>obtain⟨l,c,h1,h2,h3⟩:=hx;exact⟨l,c,by rw[ho];exact h1,h2,h3.mono hm⟩
 | iter m bs c pos=>obtain⟨kL,h1,h2⟩:=hx;exact⟨kL,h1.mono hm,by rw[ho];exact h2⟩
 | oE ks vs bs c pos=>obtain⟨kL,l,h1,h2,h3,h4⟩:=hx;exact⟨kL,l,hm _ _ h1,h2,h3.mono hm,by rw[ho];exact h4⟩
 | gone=>trivial
 | loop c ls p f=>
  obtain⟨h1,h2,h3⟩:=hx;exact⟨h1,by rw[ho];exact h2,λi hi=>(h3 i hi).mono hm⟩
 | ml N=>exact⟨hx.1,by rw[ho];exact hx.2⟩
def Gd(h:H)(ρ ρ':j6):j6:=λid=>if id<h.next then ρ id else ρ' id
def RS.call{ρ':j6}{h':H}(hR:RS θ ρ0 ρ h0 h S)(ho:Over h.next h h')(hn:SQ h ρ ρ' h'):RS θ ρ0 (Gd h ρ ρ') h0 h' S/\(∀id ob,ρ id=some ob->Gd h ρ ρ' id=some ob)/\∀id ob,ρ' id=some ob->Gd h ρ ρ' id=some ob:=by
 have hold:∀id ob,ρ id=some ob->Gd h ρ ρ' id=some ob:=by
  intro id ob hi;unfold Gd;rw[ut (hR.row id ob hi).1];exact hi
 have hlw:h'.low=h.low:=ho.low hR.ln;have hpr:∀j,h0.pr j->j<h.next:=λj hj=>aj (hR.ok.pr j hj) hR.nx;have hpf:∀j,h0.pf j->j<h.next:=λj hj=>aj (hR.ok.pf j hj) hR.nx;refine⟨⟨hR.ok,bc hR.nx ho.next,λj hj=>(ho.aW j (hpr j hj)).trans (hR.ob j hj),λj hj=>(ho.dC j (hpf j hj)).trans (hR.fm j hj),by rw[hlw];exact hR.lw,by rw[hlw];exact bc hR.ln ho.next,?_,hR.sep,?_,?_⟩,hold,?_⟩
 ·intro o so h1 h2;obtain⟨k,k2⟩:=hR.obj o so h1 h2;refine⟨k.mono ho.next,?_⟩
  have hid:(θ o).id<h.next:=by rcases k.e with e | e<;>rw[e];exact k.x.2;exact k.y.2
  exact k2.mono hold (ho.aW _ hid) (ho.dC _ k.f.2)
 ·intro id ob hi;unfold Gd at hi;split at hi
  ·rename_i hlt;obtain⟨r1,r2,r3⟩:=hR.row id ob hi;exact⟨aj r1 ho.next,by rw[ho.aW id r1];exact r2,r3⟩
  ·rename_i hlt
   rcases hn id ob hi with e | ⟨e1,e2,e3⟩
   ·exact un (hR.row id ob e).1 hlt
   ·refine⟨e2,e3,λo so h1 h2=>?_⟩;obtain⟨k,_⟩:=hR.obj o so h1 h2;have:=k.x.2;have:=k.y.2;omega
 ·intro id ob hi;unfold Gd at hi;split at hi
  ·exact hR.mu id ob hi
  ·exact .inr (λhj=>by have:=hpr id hj;omega)
 ·intro id ob hi;unfold Gd;split
  ·rename_i hlt
   rcases hn id ob hi with e | ⟨e1,_⟩
   ·exact e
   ·omega
  ·exact hi
def FR.mono{ρ':j6}{f:Nat->SV}{af:Nat->AV}{n:Nat}{wv:Nat->AV}(hF:FR θ ρ f af n wv)(hm:∀id ob,ρ id=some ob->ρ' id=some ob):FR θ ρ' f af n wv:=⟨λi=>(hF.v i).mono hm,hF.u⟩
def aL.call{ro:Option Nat}{all:List Oper}{o:Oper}{l:List Oper}{f:Fm}{n:Nat}{ds:List jv}{K:eu->Prop}{d:Nat}{c:Call}{g:FuncId}{vs ws:List SV}{Q:SV->Prop}(hop:o.op=.call c)(hdst:o.dst=some d)(hw:uF all f n o=some true)(hdy:fE (.call c)=true)(hd:blt d n=true)
 (hc:iE P f c=some (g,vs)) (hq:PC P g ws Q) (hwk:cu S vs ws) (hfl:(∀r,Q r->vJ r=true)\/cu [] vs ws) (hk:∀r,Q r->aL P ro all l ⟨(d,r)::f,n,S,ds⟩ K):aL P ro all (o::l) ⟨f,n,S,ds⟩ K:=by
 rintro ρ0 h0 ⟨af,n',h,ds'⟩ ⟨rfl,rfl,θ,ρ,hR,hF⟩;obtain⟨xs,cap,h1,h2⟩:=xX hF hc
 rcases hfl with hfl | hfl
 ·refine .c hop hdst (dr hF hw) hdy hd h1 rfl (hq _ _ _ (pL hR) (hwk.ok hR h2)) ?_;rintro v h' ⟨r,ρ',k1,k2,k3,k4⟩;obtain⟨j1,j2,_⟩:=hR.call (ρ':=λ_=>none) k2 (λid ob hi=>by cases hi);exact hk r k1 ρ0 h0 _ ⟨rfl,rfl,θ,_,j1,(hF.mono j2).put (fK hd) (k4.flat (hfl r k1))⟩
 ·have:=hfl.ok hR.C9 h2;rw[yY] at this;refine .c hop hdst (dr hF hw) hdy hd h1 rfl (hq _ _ _ (λid ob hi=>⟨(hR.row id ob hi).1,(hR.row id ob hi).2.1⟩) this) ?_;rintro v h' ⟨r,ρ',k1,k2,k3,k4⟩;obtain⟨j1,j2,j3⟩:=hR.call k2 k3;exact hk r k1 ρ0 h0 _ ⟨rfl,rfl,θ,_,j1,(hF.mono j2).put (fK hd) ((k4.mono j3).vs)⟩
end
def kP:Nat->List SV->Fm
 | _,[]=>[]
 | i,v::vs=>(i,v)::kP (i+1) vs
def sT:∀(vs:List SV) (i j:Nat),aK (kP i vs) j=if i<=j then (match vs[j-i]? with | some v=>v | none=>.any) else .any
 | [],i,j=>by simp[kP,aK]
 | v::vs,i,j=>by
  show(if i=j then v else aK (kP (i+1) vs) j)=_;rw[sT vs (i+1) j];by_cases h:i=j
  ·subst h;simp
  ·rw[v6 h];by_cases h2:i<=j
   ·rw[ut i4,ut h2];obtain⟨k,hk⟩:∃k,j-i=k+1:=⟨j-i-1,by omega⟩;rw[hk,ap,show j-(i+1)=k by omega]
   ·rw[v6 i4,v6 h2]
def oQ(P:Program)(f:Fm)(S:List SO):List ResultVar->Option (List SV)
 | []=>some []
 | .tmp i::l=>(eP f (.tmp i)).bind λv=>(oQ P f S l).map λb=>v::b
 | .cell a t::l=>(eP f (.tmp a)).bind λx=>(yJ P S t x).bind λv=>(oQ P f S l).map λb=>v::b
def eC:List SV->SV
 | [v]=>v
 | vs=>.cx vs
def Bh(P:Program)(fn:Func)(Q:SV->Prop):Ex->eu->Prop:=λe st=>ke e=true/\st.ds=[]/\∃vs r,oQ P st.f st.S fn.results.toList=some vs/\Wk st.S (eC vs) r/\Q r
section
variable {P:Program}
def tQ{θ:Nat->Loc}{ρ ρ0:j6}{h0:En}{h:H}{S:List SO}(hR:RS θ ρ0 ρ h0 h S){f:Fm}{af:Nat->AV}{n:Nat}{wv:Nat->AV}(hF:FR θ ρ (aK f) af n wv):∀{l:List ResultVar} {vs:List SV},oQ P f S l=some vs->∃aS,(l.mapM λ
 | ResultVar.tmp i=>ev (ei af n) (.tmp i)
 | ResultVar.cell a tt=>match ev (ei af n) (.tmp a) with
  | some (.ptr (some (id,off)))=>h.load P tt id off
  | _=>none)=some aS/\c9 θ ρ vs aS
 | [],vs,hv=>by
  simp only[oQ,qr] at hv;subst hv;exact⟨[],rfl,by rw[bj]⟩
 | .tmp i::l,vs,hv=>by
  rw[oQ] at hv;obtain⟨v0,hv0,hv⟩:=ul hv;obtain⟨b,hb,rfl⟩:=az hv;obtain⟨aS,h1,h2⟩:=tQ hR hF hb;obtain⟨a,ha,ka⟩:=bP hF (x:=.tmp i) hv0;refine⟨a::aS,?_,by rw[aN];exact⟨a,aS,rfl,ka,h2⟩⟩;rw[dc];simp only[ha,h1];rfl
 | .cell a t::l,vs,hv=>by
  rw[oQ] at hv;obtain⟨v0,hv0,hv⟩:=ul hv;obtain⟨v,hv1,hv⟩:=ul hv;obtain⟨b,hb,rfl⟩:=az hv;obtain⟨aS,h1,h2⟩:=tQ hR hF hb;obtain⟨p,hp,kp⟩:=bP hF (x:=.tmp a) hv0;obtain⟨y,hy,ky⟩:=Fy hR kp hv1;refine⟨y::aS,?_,by rw[aN];exact⟨y,aS,rfl,ky,h2⟩⟩;rw[dc];simp only[hp,h1];unfold C2 at hy;split at hy
  ·rename_i he;cases he;simp only[hy];rfl
  ·cases hy
def OZ:List AV->AV
 | [v]=>v
 | vs=>.cx vs
variable{vs:List SV}{aS:List AV}
def Kc{θ:Nat->Loc}{ρ:j6}(h:c9 θ ρ vs aS):VS θ ρ (eC vs) (OZ aS):=by
 match vs,h with
 | [],h=>rw[bj] at h;subst h;simp only[eC];rw[VS];exact⟨[],rfl,by rw[bj]⟩
 | [v],h=>
  rw[aN] at h;obtain⟨a,r,rfl,h1,h2⟩:=h;rw[bj] at h2;subst h2;exact h1
 | v::w::vs,h=>
  have h':=h;rw[aN] at h;obtain⟨a,r,rfl,h1,h2⟩:=h;rw[aN] at h2;obtain⟨b,r2,rfl,h3,h4⟩:=h2;simp only[eC];rw[VS];exact⟨_,rfl,h'⟩
end
section
variable {θ:Nat->Loc} {ρ ρ0:j6} {P:Program} {h0:En} {h:H} {S S':List SO}
def uI(f:Fm):Fm->Prop
 | []=>True
 | (i,v)::l=>aK f i=v/\uI f l
def Cn(S:List SO):List SO->Nat->Prop
 | [],_=>True
 | s::l,k=>(s=.gone\/S[k]?=some s)/\Cn S l (k+1)
def Cn.get:∀{l:List SO} {k:Nat},Cn S l k->∀{o:Nat} {so:SO},l[o]?=some so->so≠.gone->S[k+o]?=some so
 | [],_,_,o,so,h,_=>by simp at h
 | s::l,k,hs,o,so,h,hg=>by
  obtain⟨h1,h2⟩:=hs
  cases o with
  | zero=>
   simp only[ax,qr] at h;subst h;exact h1.resolve_left hg
  | succ o=>
   simp only[ap] at h;have:=Cn.get h2 h hg;rw[show k+(o+1)=k+1+o by omega];exact this
def RS.sub(hR:RS θ ρ0 ρ h0 h S)(hs:∀(o:Nat) (so:SO),S'[o]?=some so->so≠.gone->S[o]?=some so):RS θ ρ0 ρ h0 h S':=
 ⟨hR.ok,hR.nx,hR.ob,hR.fm,hR.lw,hR.ln,λo so h1 h2=>hR.obj o so (hs o so h1 h2) h2,λo o' so so' h h1 h2 h3 h4=>hR.sep o o' so so' h (hs o so h1 h2) h2 (hs o' so' h3 h4) h4,
  λid ob hi=>⟨(hR.row id ob hi).1,(hR.row id ob hi).2.1,λo so h1 h2=>(hR.row id ob hi).2.2 o so (hs o so h1 h2) h2⟩,hR.mu⟩
def uI.get{f:Fm}:∀{f':Fm},uI f f'->∀i,aK f' i=aK f i\/aK f' i=.any
 | [],_,i=>.inr rfl
 | (d,v)::l,h,i=>by
  obtain⟨h1,h2⟩:=h;show(if d=i then v else aK l i)=_\/(if d=i then v else aK l i)=_;by_cases e:d=i
  ·subst e;rw[ut rfl];exact .inl h1.symm
  ·rw[v6 e];exact uI.get h2 i
variable{f:Fm}{n:Nat}{ds:List jv}
def Fg.less{f':Fm}(hf:uI f f')(hs:Cn S S' 0):Fg ⟨f,n,S,ds⟩ ⟨f',n,S',ds⟩:=by
 refine⟨rfl,?_⟩;rintro ρ0 h0 ⟨af,n',h,ds'⟩ ⟨rfl,rfl,θ,ρ,hR,hF⟩;refine⟨rfl,rfl,θ,ρ,hR.sub λo so h1 h2=>by have:=hs.get h1 h2;rw[bd] at this;exact this,λi=>?_,hF.u⟩
 rcases hf.get i with e | e
 ·rw[e];exact hF.v i
 ·rw[e,VS];trivial
def jq(o:Nat)(so:SO):List SO:=dd o .gone++[so]
variable{o:Nat}{so:SO}
def rG{p:Nat}{s:SO}(h:(jq o so)[p]?=some s)(hg:s≠.gone):p=o/\s=so:=by
 unfold jq at h;rw[cn] at h;split at h
 ·rename_i hl;rw[a9] at hl;rw[List.getElem?_replicate,ut hl] at h;cases h;exact un rfl hg
 ·rename_i hl;rw[a9] at hl h
  have:p-o=0:=by
   apply Decidable.byContradiction;intro hn;rw[a8 (by simp;omega)] at h;cases h
  rw[this] at h;simp only[ax,qr] at h;exact⟨by omega,h.symm⟩
def Gk(o:Nat)(so:SO):(jq o so)[o]?=some so:=by
 unfold jq;rw[bb (by rw[a9];exact bw _),a9,d0];rfl
def xL(S:List SO)(f:Fm):Fm->Prop
 | []=>True
 | (i,v)::l=>(aK f i=v\/Wk S (aK f i) v)/\xL S f l
def xL.get{f:Fm}:∀{f':Fm},xL S f f'->∀i,aK f' i=aK f i\/Wk S (aK f i) (aK f' i)
 | [],_,i=>.inr (.any _)
 | (d,v)::l,h,i=>by
  obtain⟨h1,h2⟩:=h;show(if d=i then v else aK l i)=_\/Wk S _ (if d=i then v else aK l i);by_cases e:d=i
  ·subst e;rw[ut rfl]
   rcases h1 with h1 | h1
   ·exact .inl h1.symm
   ·exact .inr h1
  ·rw[v6 e];exact xL.get h2 i
def Fg.xp{f':Fm}(o:Nat)(hS:S[o]?=some so)(hg:so≠.gone)(hf:∀i,aK f' i=aK f i\/Wk (jq o so) (aK f i) (aK f' i)):Fg ⟨f,n,S,ds⟩ ⟨f',n,S.set o .gone,ds⟩:=by
 refine⟨rfl,?_⟩;rintro ρ0 h0 ⟨af,n',h,ds'⟩ ⟨rfl,rfl,θ,ρ,hR,hF⟩
 have hsub:∀(p:Nat) (s:SO),(jq o so)[p]?=some s->s≠.gone->S[p]?=some s:=by
  intro p s h1 h2;obtain⟨rfl,rfl⟩:=rG h1 h2;exact hS
 have hR1:=hR.sub hsub
 have hset:∀(p:Nat) (s:SO),(S.set o .gone)[p]?=some s->s≠.gone->S[p]?=some s/\p≠o:=by
  intro p s h1 h2;by_cases hp:p=o
  ·subst hp;rw[ay (bq hS)] at h1;cases h1;exact un rfl h2
  ·rw[a4 (λe=>hp e.symm)] at h1;exact⟨h1,hp⟩
 have hR2:=hR.sub (S':=S.set o .gone) λp s h1 h2=>(hset p s h1 h2).1;have hm:∀id ob,ρ id=some ob->oR θ ρ h (jq o so) id=some ob:=λid ob hi=>qJ hi
 have key:∀id ob,oR θ ρ h (jq o so) id=some ob->ρ id=some ob\/id=(θ o).id:=by
  intro id ob hi;unfold oR at hi
  cases hr:ρ id with
  | some ob'=>rw[hr] at hi;exact .inl hi
  | none=>
   rw[hr] at hi;simp only at hi;split at hi
   ·rename_i hex;obtain⟨p,s,q1,q2,rfl⟩:=hex;obtain⟨rfl,_⟩:=rG q1 q2;exact .inr rfl
   ·cases hi
 refine⟨rfl,rfl,θ,oR θ ρ h (jq o so),⟨hR2.ok,hR2.nx,hR2.ob,hR2.fm,hR2.lw,hR2.ln,?_,hR2.sep,?_,?_⟩,λi=>?_,hF.u⟩
 ·intro p s h1 h2;obtain⟨k,k2⟩:=hR2.obj p s h1 h2;exact⟨k,k2.mono hm rfl rfl⟩
 ·intro id ob hi;obtain⟨r1,r2⟩:=pL hR1 id ob hi;refine⟨r1,r2,λp s h1 h2=>?_⟩
  rcases key id ob hi with e | e
  ·exact(hR2.row id ob e).2.2 p s h1 h2
  ·subst e;obtain⟨g1,g2⟩:=hset p s h1 h2;have sp:=hR.sep p o s so g2 g1 h2 hS hg;obtain⟨k,_⟩:=hR.obj o so hS hg
   rcases k.e with e | e<;>rw[e]
   ·exact⟨sp.xx.symm,sp.yx.symm⟩
   ·exact⟨sp.xy.symm,sp.yy.symm⟩
 ·intro id ob hi
  rcases key id ob hi with e | e
  ·exact hR.mu id ob e
  ·subst e;obtain⟨k,_⟩:=hR.obj o so hS hg;exact .inr (by rcases k.e with e | e<;>rw[e];exact k.x.1;exact k.y.1)
 ·rcases hf i with e | e
  ·rw[e];exact(hF.v i).mono hm
  ·exact(e.ok hR1 (hF.v i)).vs
def Fg.freeze{f':Fm}(o:Nat)(hS:S[o]?=some so)(hg:so≠.gone)(hf:xL (jq o so) f f'):Fg ⟨f,n,S,ds⟩ ⟨f',n,S.set o .gone,ds⟩:=.xp o hS hg hf.get
mutual
def mq:SV->Bool
 | .a _=>true
 | .sl _ _ _=>true
 | .im _ _=>true
 | .ip _=>true
 | .any=>true
 | .e0 _=>true
 | .ag cs=>bR cs
 | .cx cs=>bR cs
 | .fn _ a b=>bR a&&bR b
 | .iface _ v=>mq v
 | _=>false
def bR:List SV->Bool
 | []=>true
 | d::ds=>mq d&&bR ds
end
mutual
def Wk.refl:∀{v:SV},mq v=true->Wk S v v
 | .a v,_=>.a v
 | .sl n e cs,_=>.sl n e cs
 | .im ks vs,_=>.im ks vs
 | .ip cs,_=>.ip cs
 | .any,_=>.any _
 | .e0 e,_=>.e0 e
 | .sub _ _ _ _ _,h=>by simp[mq] at h
 | .ag cs,h=>.ag (cu.refl (by rw[mq] at h;exact h))
 | .cx cs,h=>.cx (cu.refl (by rw[mq] at h;exact h))
 | .fn g a b,h=>by rw[mq,ac] at h;exact .fn (cu.refl h.1) (cu.refl h.2)
 | .iface t v,h=>.iface (Wk.refl (by rw[mq] at h;exact h))
 | .ptr _ _,h=>by simp[mq] at h
 | .map _,h=>by simp[mq] at h
 | .buf _ _ _ _,h=>by simp[mq] at h
def cu.refl:∀{vs:List SV},bR vs=true->cu S vs vs
 | [],_=>.nil
 | d::ds,h=>by rw[bR,ac] at h;exact .cons (Wk.refl h.1) (cu.refl h.2)
end
def cu.app:∀{a b c d:List SV},cu S a c->cu S b d->cu S (a++b) (c++d)
 | _,_,_,_,.nil,h=>h
 | _,_,_,_,.cons h1 h2,h=>.cons h1 (cu.app h2 h)
end
end
end Go.Ev
namespace Go.Proofs
open Go.Ev
section
variable (P:Program) (t:Nat)
abbrev fS(n:Nat)(z:List AV):Prop:=Hc P t=some (n,true)/\dm P t=some (.agg z)/\Po P t=some none/\QY P t=none/\ph P t=true
abbrev fL(e n:Nat):Prop:=Hc P t=some (1,false)/\dm P t=some (.slice none 0 0 (some 0))/\HL P t=some (e,n)/\QY P t=none/\iT P t=.sl/\ph P t=true
abbrev fA(n k e s:Nat)(z:AV):Prop:=Hc P t=some (n,true)/\dm P t=some (.agg (dd k z))/\QY P t=some (k,e,s)/\Po P t=some (some s)/\iT P t=.other
abbrev fM(k e:Nat):Prop:=Hc P t=some (1,false)/\dm P t=some (.map none)/\dy P t=some (k,e)/\iT P t=.map
abbrev fT:Prop:=Hc P t=some (1,false)/\dm P t=some (.str [])/\iT P t=.str/\ph P t=true
abbrev fI(k:IntKind):Prop:=Hc P t=some (1,false)/\dm P t=some (.int k 0)/\ph P t=true/\iT P t=.other/\isInt P t=true
abbrev fB(z:AV):Prop:=Hc P t=some (1,false)/\dm P t=some z/\ph P t=true
end
abbrev k0(P:Program)(t i a b c:Nat):Prop:=HU P t i=some (a,b,c)
abbrev k1(P:Program)(t a b c:Nat):Prop:=k0 P t 0 a b c
abbrev k2(P:Program)(t a b c d e f:Nat):Prop:=k1 P t a b c/\k0 P t 1 d e f
abbrev k3(P:Program)(t a b c d e f g h i:Nat):Prop:=k2 P t a b c d e f/\k0 P t 2 g h i
abbrev k4(P:Program)(t a b c d e f g h i j k l:Nat):Prop:=k3 P t a b c d e f g h i/\k0 P t 3 j k l
abbrev k5(P:Program)(t a b c d e f g h i j k l m n o:Nat):Prop:=k4 P t a b c d e f g h i j k l/\k0 P t 4 m n o
abbrev k6(P:Program)(t a b c d e f g h i j k l m n o p q r:Nat):Prop:=k5 P t a b c d e f g h i j k l m n o/\k0 P t 5 p q r
abbrev k7(P:Program)(t a b c d e f g h i j k l m n o p q r s u v:Nat):Prop:=k6 P t a b c d e f g h i j k l m n o p q r/\k0 P t 6 s u v
abbrev k8(P:Program)(t a b c d e f g h i j k l m n o p q r s u v w x y:Nat):Prop:=k7 P t a b c d e f g h i j k l m n o p q r s u v/\k0 P t 7 w x y
abbrev k9(P:Program)(t a b c d e f g h i j k l m n o p q r s u v w x y z a1 b1:Nat):Prop:=k8 P t a b c d e f g h i j k l m n o p q r s u v w x y/\k0 P t 8 z a1 b1
abbrev Vc(P:Program)(t a b c d e f g h i j k l m n o p q r s u v w x y z a1 b1 c1 d1 e1:Nat):Prop:=k9 P t a b c d e f g h i j k l m n o p q r s u v w x y z a1 b1/\k0 P t 9 c1 d1 e1
abbrev Vd(P:Program)(t a b c d e f g h i j k l m n o p q r s u v w x y z a1 b1 c1 d1 e1 f1 g1 h1:Nat):Prop:=Vc P t a b c d e f g h i j k l m n o p q r s u v w x y z a1 b1 c1 d1 e1/\k0 P t 10 f1 g1 h1
abbrev o0(P:Program)(t:Nat):Prop:=Hc P t=some (1,false)
abbrev o9(P:Program)(a b c d e f g h i j k l:Nat):Prop:=o0 P a/\o0 P b/\o0 P c/\o0 P d/\o0 P e/\o0 P f/\o0 P g/\o0 P h/\o0 P i/\o0 P j/\o0 P k/\o0 P l
abbrev s0(P:Program)(t:Nat):Prop:=fS P t 1 [.slice none 0 0 (some 0)]/\k1 P t 0 22 1
abbrev s1(P:Program)(t:Nat):Prop:=fS P t 3 [.int .i64 0,.int .i64 0,.slice none 0 0 (some 0)]/\k3 P t 0 3 1 1 3 1 2 25 1
abbrev s2(P:Program)(t:Nat):Prop:=fS P t 4 [.slice none 0 0 (some 0),.int .i64 0,.int .i64 0,.slice none 0 0 (some 0)]/\k2 P t 0 24 1 1 27 3
abbrev s3(P:Program)(t:Nat):Prop:=fS P t 6 [.slice none 0 0 (some 0),.slice none 0 0 (some 0),.slice none 0 0 (some 0),.slice none 0 0 (some 0),.slice none 0 0 (some 0),.slice none 0 0 (some 0)]/\k6 P t 0 30 1 1 31 1 2 32 1 3 33 1 4 30 1 5 34 1
abbrev s4(P:Program)(t:Nat):Prop:=fS P t 1 [.slice none 0 0 (some 0)]/\k1 P t 0 44 1
abbrev s5(P:Program)(t:Nat):Prop:=fS P t 2 [.int .i64 0,.int .i64 0]/\k2 P t 0 3 1 1 3 1
abbrev s6(P:Program)(t:Nat):Prop:=fS P t 6 [.int .i64 0,.int .i64 0,.int .i64 0,.int .i64 0,.int .i64 0,.int .i64 0]/\k3 P t 0 52 2 2 52 2 4 52 2
abbrev s7(P:Program)(t:Nat):Prop:=fS P t 14 [.str [],.str [],.str [],.str [],.int .i64 0,.int .i64 0,.bool false,.slice none 0 0 (some 0),.int .i64 0,.int .i64 0,.int .i64 0,.int .i64 0,.int .i64 0,.int .i64 0]/\k9 P t 0 9 1 1 9 1 2 9 1 3 9 1 4 3 1 5 3 1 6 4 1 7 50 1 8 54 6
abbrev s8(P:Program)(t:Nat):Prop:=fS P t 3 [.str [],.bool false,.slice none 0 0 (some 0)]/\k3 P t 0 9 1 1 4 1 2 59 1
abbrev s9(P:Program)(t:Nat):Prop:=fS P t 3 [.int .i64 0,.str [],.str []]/\k3 P t 0 3 1 1 9 1 2 9 1
abbrev UC(P:Program)(t:Nat):Prop:=fS P t 6 [.int .i64 0,.str [],.str [],.int .i64 0,.int .i64 0,.slice none 0 0 (some 0)]/\k6 P t 0 3 1 1 9 1 2 9 1 3 3 1 4 3 1 5 69 1
abbrev UD(P:Program)(t:Nat):Prop:=fS P t 8 [.str [],.str [],.int .i64 0,.str [],.str [],.int .i64 0,.int .i64 0,.slice none 0 0 (some 0)]/\k3 P t 0 9 1 1 9 1 2 71 6
abbrev UE(P:Program)(t:Nat):Prop:=fS P t 4 [.str [],.str [],.slice none 0 0 (some 0),.slice none 0 0 (some 0)]/\k4 P t 0 9 1 1 9 1 2 80 1 3 80 1
abbrev UF(P:Program)(t:Nat):Prop:=fS P t 14 [.int .i64 0,.int .i64 0,.str [],.str [],.str [],.str [],.str [],.str [],.int .i64 0,.int .i64 0,.int .i64 0,.int .i64 0,.int .i64 0,.int .i64 0]/\k9 P t 0 3 1 1 3 1 2 9 1 3 9 1 4 9 1 5 9 1 6 9 1 7 9 1 8 88 6
abbrev TX(P:Program)(t:Nat):Prop:=fS P t 3 [.str [],.str [],.int .i64 0]/\k3 P t 0 9 1 1 9 1 2 3 1
abbrev UG(P:Program)(t:Nat):Prop:=fS P t 2 [.slice none 0 0 (some 0),.map none]/\k2 P t 0 44 1 1 118 1
abbrev UH(P:Program)(t:Nat):Prop:=fS P t 2 [.slice none 0 0 (some 0),.int .i64 0]/\k2 P t 0 46 1 1 3 1
abbrev UI(P:Program)(t:Nat):Prop:=fS P t 28 [.str [],.str [],.str [],.str [],.int .i64 0,.int .i64 0,.bool false,.slice none 0 0 (some 0),.int .i64 0,.int .i64 0,.int .i64 0,.int .i64 0,.int .i64 0,.int .i64 0,.str [],.str [],.str [],.str [],.int .i64 0,.int .i64 0,.bool false,.slice none 0 0 (some 0),.int .i64 0,.int .i64 0,.int .i64 0,.int .i64 0,.int .i64 0,.int .i64 0]/\k2 P t 0 56 14 14 56 14
abbrev UJ(P:Program)(t:Nat):Prop:=fS P t 5 [.str [],.str [],.str [],.str [],.int .i64 0]/\k5 P t 0 9 1 1 9 1 2 9 1 3 9 1 4 3 1
abbrev UK(P:Program)(t:Nat):Prop:=fS P t 5 [.str [],.str [],.str [],.int .i64 0,.int .i64 0]/\k5 P t 0 9 1 1 9 1 2 9 1 3 3 1 4 3 1
abbrev UL(P:Program)(t:Nat):Prop:=fS P t 3 [.str [],.slice none 0 0 (some 0),.int .i64 0]/\k3 P t 0 9 1 1 66 1 2 3 1
abbrev TY(P:Program)(t:Nat):Prop:=fS P t 2 [.str [],.str []]/\k2 P t 0 9 1 1 9 1
abbrev UM(P:Program)(t:Nat):Prop:=fS P t 6 [.int .i64 0,.int .i64 0,.int .i64 0,.int .i64 0,.int .i64 0,.int .i64 0]/\k1 P t 0 88 6
abbrev UN(P:Program)(t:Nat):Prop:=fS P t 5 [.str [],.str [],.str [],.int .i64 0,.int .i64 0]/\k1 P t 0 153 5
abbrev UO(P:Program)(t:Nat):Prop:=fS P t 4 [.ptr none,.ptr none,.ptr none,.str []]/\k4 P t 0 17 1 1 17 1 2 17 1 3 9 1
abbrev UP(P:Program)(t:Nat):Prop:=fS P t 0 []/\k1 P t 0 357 0
abbrev UQ(P:Program)(t:Nat):Prop:=fS P t 11 [.int .u64 0,.int .u64 0,.int .u32 0,.int .u8 0,.int .u8 0,.int .u8 0,.int .u8 0,.ef,.ptr none,.int .i32 0,.int .i32 0]/\Vd P t 0 12 1 1 12 1 2 281 1 3 361 1 4 5 1 5 5 1 6 362 1 7 363 1 8 364 1 9 365 1 10 366 1
abbrev UT(P:Program):Prop:=s0 P 23/\s0 P 24/\s1 P 26/\s1 P 27/\s2 P 28/\s2 P 29/\s3 P 35/\s3 P 36/\s4 P 45/\s4 P 46/\s5 P 51/\s5 P 52/\s6 P 53/\s6 P 54/\s6 P 87/\s6 P 88/\s7 P 55/\s7 P 56/\s8 P 60/\s8 P 61/\s9 P 64/\s9 P 65/\UC P 70/\UC P 71
def OT:UT b6:=by
 (repeat' apply bg)<;>(change _=_;kernel_rfl)
abbrev UU(P:Program):Prop:=UD P 72/\UD P 73/\UE P 81/\UE P 82/\UF P 89/\UF P 90/\TX P 95/\TX P 96/\TX P 136/\TX P 137/\UG P 119/\UG P 120/\UH P 127/\UH P 128/\UI P 142/\UI P 143/\UJ P 146/\UJ P 147/\UK P 152/\UK P 153/\UL P 154/\UL P 155/\TY P 197/\TY P 198
def OU:UU b6:=by
 (repeat' apply bg)<;>(change _=_;kernel_rfl)
abbrev UW(P:Program):Prop:=TY P 247/\TY P 248/\UM P 202/\UM P 203/\UN P 226/\UN P 227/\UO P 355/\UO P 356/\UP P 358/\UP P 359/\UQ P 367/\UQ P 368/\o9 P 1 38 39 40 42 43 49 58 63 67 68 75/\o9 P 76 77 78 79 83 84 85 86 91 92 94 97/\o9 P 100 101 102 103 104 105 106 107 108 110 111 112/\o9 P 113 114 116 117 121 124 125 126 129 130 131 132/\o9 P 135 138 139 140 141 144 145 148 149 150 151 156/\o9 P 157 158 159 160 161 162 163 164 165 166 167 168/\o9 P 169 170 172 173 174 175 177 178 179 180 182 183/\o9 P 184 185 186 187 188 189 190 191 192 193 194 195/\o9 P 196 199 201 204 205 206 207 208 209 211 212 213/\o9 P 214 215 216 218 219 220 221 222 223 224 225 228/\o9 P 230 231 232 233 234 235 236 237 238 239 240 242/\o9 P 243 244 246 249 252 254 255 256 257 258 259 260
def OV:UW b6:=by
 (repeat' apply bg)<;>(change _=_;kernel_rfl)
abbrev UX(P:Program):Prop:=o9 P 261 262 263 264 265 266 267 268 269 270 272 275/\o9 P 276 277 278 279 280 282 284 285 286 289 290 291/\o9 P 292 293 294 295 296 297 298 299 300 301 302 303/\o9 P 304 305 306 307 308 309 311 312 313 314 315 316/\o9 P 317 319 320 321 323 324 325 326 327 328 330 331/\o9 P 332 333 334 335 336 337 338 339 340 341 343 346/\o9 P 347 348 349 350 351 352 353 354 360 363 369 371/\fI P 2 .i64/\fI P 3 .i64/\fB P 4 (.bool false)/\fI P 5 .u8/\fT P 9/\fI P 21 .i32/\fL P 22 61 3/\fL P 25 27 3/\fL P 30 73 8/\fL P 31 147 5/\fL P 32 153 5/\fL P 33 96 3/\fL P 34 82 4/\fL P 37 90 14/\fL P 41 65 3/\fL P 44 56 14/\fI P 47 .i64
def OW:UX b6:=by
 (repeat' apply bg)<;>(change _=_;kernel_rfl)
abbrev UY(P:Program):Prop:=fL P 50 198 2/\fL P 59 155 3/\fL P 66 9 1/\fL P 69 71 6/\fI P 74 .i64/\fL P 80 3 1/\fM P 98 65 4/\fM P 99 65 4/\fB P 115 (.ptr none)/\fM P 118 9 3/\fM P 123 9 9/\fM P 133 9 4/\fM P 134 137 4/\fL P 200 52 2/\fI P 210 .u64/\fA P 241 256 256 5 1 (.int .u8 0)/\fM P 245 248 4/\fB P 250 (.ptr none)/\fA P 251 3 3 250 1 (.ptr none)/\fB P 253 (.ptr none)/\fI P 271 .i64/\fI P 273 .i64/\fI P 281 .u32/\fI P 283 .u64
def OX:UY b6:=by
 (repeat' apply bg)<;>(change _=_;kernel_rfl)
abbrev UZ(P:Program):Prop:=fM P 288 9 286/\fA P 310 8 8 9 1 (.str [])/\fI P 318 .u64/\fB P 322 (.ptr none)/\fL P 329 108 1/\fL P 342 271 1/\fB P 344 (.ptr none)/\fA P 357 0 0 16 1 (.ptr none)/\fI P 361 .u8/\fI P 362 .u8/\fB P 364 (.ptr none)/\fI P 365 .i32/\fI P 366 .i32
def OY:UZ b6:=by
 (repeat' apply bg)<;>(change _=_;kernel_rfl)
def aC:UT b6/\UU b6/\UW b6/\UX b6/\UY b6/\UZ b6:=⟨OT,OU,OV,OW,OX,OY⟩
end Go.Proofs
namespace Go.Ev
variable{a:Prop}{b:Prop}
def y2(a1:a)(b1:b):a/\b:=⟨a1,b1⟩
variable{c:Prop}
def y3(a1:a)(b1:b)(c1:c):a/\b/\c:=⟨a1,b1,c1⟩
variable{d:Prop}
def y4(a1:a)(b1:b)(c1:c)(d1:d):a/\b/\c/\d:=⟨a1,b1,c1,d1⟩
variable{e:Prop}
def y5(a1:a)(b1:b)(c1:c)(d1:d)(e1:e):a/\b/\c/\d/\e:=⟨a1,b1,c1,d1,e1⟩
def y6{f:Prop}(a1:a)(b1:b)(c1:c)(d1:d)(e1:e)(f1:f):a/\b/\c/\d/\e/\f:=⟨a1,b1,c1,d1,e1,f1⟩
def y7{f g:Prop}(a1:a)(b1:b)(c1:c)(d1:d)(e1:e)(f1:f)(g1:g):a/\b/\c/\d/\e/\f/\g:=⟨a1,b1,c1,d1,e1,f1,g1⟩
def y8{f g h:Prop}(a1:a)(b1:b)(c1:c)(d1:d)(e1:e)(f1:f)(g1:g)(h1:h):a/\b/\c/\d/\e/\f/\g/\h:=⟨a1,b1,c1,d1,e1,f1,g1,h1⟩
section
variable {P:Program} {f:Fm} {S:List SO} {o:Nat}
def l8(v:AV):names o (.a v)=false:=by rw[names];all_goals (intros;contradiction)
def FM(n e:Nat)(cs:List SV):names o (.sl n e cs)=false:=by rw[names];all_goals (intros;contradiction)
def FK(ks:List AV)(vs:List SV):names o (.im ks vs)=false:=by rw[names];all_goals (intros;contradiction)
def FL(cs:List SV):names o (.ip cs)=false:=by rw[names];all_goals (intros;contradiction)
def BN:names o .any=false:=by rw[names];all_goals (intros;contradiction)
def Pt(k:IntKind)(n:Int):cR (.a (.int k n))=some [.a (.int k n)]:=rfl
def Pu(s:List Nat):cR (.a (.str s))=some [.a (.str s)]:=rfl
def Ps(b:Bool):cR (.a (.bool b))=some [.a (.bool b)]:=rfl
def KM(o:Option (Nat×Nat))(n e:Nat)(c:Option Nat):cR (.a (.slice o n e c))=some [.a (.slice o n e c)]:=rfl
def MV(n e:Nat)(cs:List SV):cR (.sl n e cs)=some [.sl n e cs]:=rfl
def MT(ks:List AV)(vs:List SV):cR (.im ks vs)=some [.im ks vs]:=rfl
def MU(cs:List SV):cR (.ip cs)=some [.ip cs]:=rfl
def HE(o off:Nat):cR (.ptr o off)=some [.ptr o off]:=rfl
def HC(o:Nat):cR (.map o)=some [.map o]:=rfl
def FJ(e:Nat):names o (.e0 e)=false:=by rw[names];all_goals (intros;contradiction)
def KR(o off n e:Nat)(c:Option Nat):cR (.sub o off n e c)=some [.sub o off n e c]:=rfl
def MR(e:Nat):cR (.e0 e)=some [.e0 e]:=rfl
def KP(o n e:Nat)(c:Option Nat):cR (.buf o n e c)=some [.buf o n e c]:=rfl
def KQ(g:FuncId)(a b:List SV):cR (.fn g a b)=some [.fn g a b]:=rfl
def MS(t:TypeId)(v:SV):cR (.iface t v)=some [.iface t v]:=rfl
def Qm(n e:Nat)(cs:List SV):eB (.sl n e cs)=true:=rfl
def Qj(ks:List AV)(vs:List SV):eB (.im ks vs)=true:=rfl
def Qk(cs:List SV):eB (.ip cs)=true:=rfl
def NY(o off:Nat):eB (.ptr o off)=true:=rfl
def NX(o:Nat):eB (.map o)=true:=rfl
def NZ(o off n e:Nat)(c:Option Nat):eB (.sub o off n e c)=true:=rfl
def Qg(e:Nat):eB (.e0 e)=true:=rfl
def NW(o n e:Nat)(c:Option Nat):eB (.buf o n e c)=true:=rfl
def Qh(g:FuncId)(a b:List SV):eB (.fn g a b)=true:=rfl
def Qi(t:TypeId)(v:SV):eB (.iface t v)=true:=rfl
def R9(k:IntKind)(n:Int):jU (.int k n)=true:=rfl
def Sa(s:List Nat):jU (.str s)=true:=rfl
def R8(b:Bool):jU (.bool b)=true:=rfl
def Qf(o:Option (Nat×Nat))(n e:Nat)(c:Option Nat):jU (.slice o n e c)=true:=rfl
def Ts(k:IntKind)(n:Int):ui (.int k n)=.a (.int k n):=rfl
def Tt(s:List Nat):ui (.str s)=.a (.str s):=rfl
def Tq(b:Bool):ui (.bool b)=.a (.bool b):=rfl
def Sq(o:Option (Nat×Nat))(n e:Nat)(c:Option Nat):ui (.slice o n e c)=.a (.slice o n e c):=rfl
def QM(o:Option (Nat×Nat)):ui (.ptr o)=.a (.ptr o):=rfl
def QL(o:Option Nat):ui (.map o)=.a (.map o):=rfl
def Sp:ui .ef=.a .ef:=rfl
def bJ(v w:SV)(l:List SV):eC (v::w::l)=.cx (v::w::l):=rfl
def Sk(x:Operand)(aS:Array Operand)(ats:Array TypeId):dj P f S (.call { callee:=.value x,args:=aS,argTypes:=ats })=none:=rfl
def Sj(x:Operand)(m:String)(aS:Array Operand)(ats:Array TypeId):dj P f S (.call { callee:=.invoke x m,args:=aS,argTypes:=ats })=none:=rfl
def oL(k:IntKind)(n:Nat):di (.int k (n:Int))=some n:=rfl
def Lp(k:IntKind)(n:Nat):di (.int k (OfNat.ofNat n))=some n:=rfl
def KN(cs:List AV):(AV.agg cs).cells=cs:=rfl
def Uj:=y8 @oT.eq_1 @oT.eq_2 @dj.eq_1 @dj.eq_2 @dj.eq_3 @dj.eq_4 @dj.eq_5 (y8 @dj.eq_6 @dj.eq_7 @dj.eq_8 @dj.eq_9 @dj.eq_10 @dj.eq_11 @dj.eq_12 (y8 @dj.eq_13 @dj.eq_14 @dj.eq_15 @dj.eq_16 @dj.eq_17 @dj.eq_18 @dj.eq_19 (y8 @dj.eq_20 @dj.eq_21 @dj.eq_22 @dj.eq_23 @dj.eq_24 @dj.eq_25 @dj.eq_26 (y8 @dj.eq_27 @yJ.eq_1 @yJ.eq_2 @tM.eq_1 @aK.eq_1 @aK.eq_2 @pz.eq_1 (y5 @pz.eq_2 @lB.eq_1 @lB.eq_2 @bM.eq_1 @bM.eq_2)))))
def Uk:=y8 @KA.eq_1 @KA.eq_2 @eP.eq_1 @eP.eq_2 @eP.eq_3 @eP.eq_4 @pO.eq_1 (y8 @pO.eq_2 @lG.eq_1 @lG.eq_2 @wO.eq_1 @wO.eq_2 @tn.eq_1 @tn.eq_2 (y8 @Cx.eq_1 @nu.eq_1 @cT.eq_1 @cT.eq_2 @cT.eq_3 @iQ.eq_1 @iQ.eq_2 (y8 @Ih.eq_1 @Az.eq_1 @Az.eq_2 @Az.eq_3 @yI.eq_1 @yI.eq_2 @yI.eq_3 (y8 @yI.eq_4 @yI.eq_5 @tX.eq_1 @tX.eq_2 @tX.eq_3 @cA.eq_1 @dS.eq_1 (y3 @AK.eq_1 @AK.eq_2 @gI.eq_1)))))
def Ul:=y8 @gI.eq_2 @gI.eq_3 @gI.eq_4 @gI.eq_5 @J7.eq_1 @Dv.eq_1 @aR.eq_1 (y8 @aR.eq_2 @aR.eq_3 @aR.eq_4 @aR.eq_5 @po.eq_1 @yj.eq_1 @pD.eq_1 (y8 @CT.eq_1 @mX.eq_1 @mX.eq_2 @mX.eq_3 @mX.eq_4 @bF.eq_1 @bF.eq_2 (y8 @bF.eq_3 @bF.eq_4 @bF.eq_5 @bF.eq_6 @bF.eq_7 @bX.eq_1 @oQ.eq_1 (y8 @oQ.eq_2 @oQ.eq_3 @eC.eq_1 @iE.eq_1 @ui.eq_1 @cR.eq_1 @cR.eq_2 (y8 @cR.eq_3 @eB.eq_1 @eB.eq_2 @eB.eq_3 @eB.eq_4 @names.eq_1 @names.eq_2 (y2 @names.eq_3 @names.eq_4))))))
def Um:=y8 @names.eq_5 @names.eq_6 @names.eq_7 @eI.eq_1 @eI.eq_2 @aM.eq_1 @uI.eq_1 (y8 @uI.eq_2 @Cn.eq_1 @Cn.eq_2 @kP.eq_1 @kP.eq_2 @l8 @FM (y8 @FK @FL @BN @KM @Pt @Pu @Ps (y8 @MV @MT @MU @KP @MS @Qm @Qj (y8 @Qk @NY @NX @NW @Qh @Qi @R9 (y5 @Sa @R8 @Qf @Ts @Tt)))))
def Un:=y8 @Tq @Sq @QM @QL @Sp @bJ @Sk (y8 @Sj @oL @HE @HC @KQ @Lp @KN (y8 @KO @Sx @MK @MO @MN @ML @xV (y8 @MM (λ{P:Program} {t:TypeId} {a b:Int}=>@Jx P t a b _ BC) (λ{P:Program} {t:TypeId} {a b:Int}=>@Cv P t a b _ BC) (λ{P:Program} {t:TypeId} {a b:Int}=>@Jw P t a b _ BC) (λ{P:Program} {t:TypeId} {a b:Int}=>@Jv P t a b _ BC) (λ{P:Program} {t:TypeId} {a b:Int}=>@Cu P t a b _ BC) (λ{P:Program} {t:TypeId} {a b:Int}=>@sW P t a b _ BC) (y8 (λ{P:Program} {t:TypeId} {a b:Int}=>@Jx P t a b _ Lg) (λ{P:Program} {t:TypeId} {a b:Int}=>@Cv P t a b _ Lg) (λ{P:Program} {t:TypeId} {a b:Int}=>@Jw P t a b _ Lg) (λ{P:Program} {t:TypeId} {a b:Int}=>@Jv P t a b _ Lg) (λ{P:Program} {t:TypeId} {a b:Int}=>@Cu P t a b _ Lg) (λ{P:Program} {t:TypeId} {a b:Int}=>@sW P t a b _ Lg) @names.eq_8 (y8 @yI.eq_6 @yI.eq_7 @tX.eq_4 @tX.eq_5 @aR.eq_6 @aR.eq_7 @mX.eq_6 (y8 @mX.eq_8 @mX.eq_9 @mX.eq_10 @gI.eq_6 @gI.eq_7 @gI.eq_8 @MB.eq_1 (y8 @MB.eq_2 @MB.eq_3 @KF.eq_1 @KF.eq_2 @KF.eq_3 @KF.eq_4 @JG.eq_1 (y8 @M5.eq_1 @CA.eq_1 @SG.eq_1 @SG.eq_2 @HB.eq_1 @HB.eq_2 @HB.eq_3 (y8 @HB.eq_4 @FJ @KR @MR @NZ @Qg @xd.eq_1 @xw.eq_1)))))))))
def cL:=y5 Uj Uk Ul Um Un
end
noncomputable section
def jS:Op->Bool
 | .move _ | .assign _ | .pick _ _ _ | .build _ _ | .nilCheck _ | .binOp _ _ _ _ _ | .unOp _ _ _ | .convert _ _ _ | .fieldAddr _ _ _ | .field _ _ _ | .indexAddr _ _ _ | .index _ _ _ | .extract _ _ | .load _ _ | .lookup _ _ _ _ | .slice _ _ _ _ _=>true
 | .makeFunc (.func _) _ _=>true
 | .makeFunc (.method _) _ _=>true
 | .call { callee:=.builtin .len,.. }=>true
 | _=>false
def H3:Op->Bool
 | .load _ _ | .lookup _ _ _ _ | .call _ | .slice _ _ _ _ _=>true
 | _=>false
variable{P:Program}
def OG{f:Fm}{S S':List SO}{op:Op}(hr:jS op=true){v:SV}{kill:Option Nat}(h:dj P f S op=some (v,S',kill)):S'=S/\kill=none:=by
 cases op with
 | move x=>obtain⟨_,_,e⟩:=az h;cases e;exact⟨rfl,rfl⟩
 | assign x=>obtain⟨_,_,e⟩:=az h;cases e;exact⟨rfl,rfl⟩
 | pick c a b=>obtain⟨_,_,e⟩:=az h;cases e;exact⟨rfl,rfl⟩
 | build tt ps=>obtain⟨_,_,h⟩:=ul h;obtain⟨_,_,e⟩:=az h;cases e;exact⟨rfl,rfl⟩
 | nilCheck x=>obtain⟨_,_,h⟩:=ul h;obtain⟨_,_,e⟩:=az h;cases e;exact⟨rfl,rfl⟩
 | binOp op xt x y yt=>
  obtain⟨_,_,h⟩:=ul h;obtain⟨_,_,h⟩:=ul h;obtain⟨_,_,h⟩:=ul h;obtain⟨_,_,h⟩:=ul h;obtain⟨_,_,e⟩:=az h;cases e;exact⟨rfl,rfl⟩
 | unOp op xt x=>
  obtain⟨_,_,h⟩:=ul h;obtain⟨_,_,h⟩:=ul h;obtain⟨_,_,e⟩:=az h;cases e;exact⟨rfl,rfl⟩
 | convert s d x=>
  obtain⟨_,_,h⟩:=ul h;obtain⟨_,_,h⟩:=ul h;obtain⟨_,_,e⟩:=az h;cases e;exact⟨rfl,rfl⟩
 | fieldAddr s x fl=>obtain⟨_,_,h⟩:=ul h;obtain⟨_,_,e⟩:=az h;cases e;exact⟨rfl,rfl⟩
 | field s x fl=>obtain⟨_,_,h⟩:=ul h;obtain⟨_,_,e⟩:=az h;cases e;exact⟨rfl,rfl⟩
 | indexAddr s x i=>
  obtain⟨_,_,h⟩:=ul h;obtain⟨_,_,h⟩:=ul h;obtain⟨_,_,e⟩:=az h;cases e;exact⟨rfl,rfl⟩
 | index s x i=>
  obtain⟨_,_,h⟩:=ul h;obtain⟨_,_,h⟩:=ul h;obtain⟨_,_,e⟩:=az h;cases e;exact⟨rfl,rfl⟩
 | extract x i=>
  simp only[dj] at h;split at h
  ·obtain⟨_,_,e⟩:=az h;cases e;exact⟨rfl,rfl⟩
  ·cases h
 | makeFunc g first cap=>
  cases g with
  | func g=>obtain⟨_,_,h⟩:=ul h;obtain⟨_,_,e⟩:=az h;cases e;exact⟨rfl,rfl⟩
  | method nm=>
   obtain⟨_,_,h⟩:=ul h;obtain⟨_,_,h⟩:=ul h;obtain⟨_,_,h⟩:=ul h;obtain⟨_,_,e⟩:=az h;cases e;exact⟨rfl,rfl⟩
  | _=>simp[jS] at hr
 | load tt a=>obtain⟨_,_,h⟩:=ul h;obtain⟨_,_,e⟩:=az h;cases e;exact⟨rfl,rfl⟩
 | lookup tt x k ok=>
  obtain⟨_,_,h⟩:=ul h;obtain⟨_,_,h⟩:=ul h;obtain⟨_,_,e⟩:=az h;cases e;exact⟨rfl,rfl⟩
 | slice tt x lo hi mx=>
  obtain⟨_,_,h⟩:=ul h;obtain⟨_,_,h⟩:=ul h;obtain⟨_,_,h⟩:=ul h;obtain⟨_,_,h⟩:=ul h;obtain⟨_,_,e⟩:=az h;cases e;exact⟨rfl,rfl⟩
 | call c=>
  obtain⟨callee,aS,ats⟩:=c
  cases callee with
  | builtin b=>
   cases b with
   | len=>
    obtain⟨_,_,h⟩:=ul h;rename_i vs _
    cases hats:ats.toList with
    | nil=>rw[hats] at h;cases h
    | cons tt l=>
     rw[hats] at h
     cases vs with
     | nil=>cases h
     | cons x l'=>
      have h:(yI P S tt x).map (λ(n:Nat)=>((SV.a (.int .i64 (n:Int)),S,none):SV×List SO×Option Nat))=some (v,S',kill):=h;obtain⟨_,_,e⟩:=az h;cases e;exact⟨rfl,rfl⟩
   | _=>simp[jS] at hr
  | _=>simp[jS] at hr
 | _=>simp[jS] at hr
section
variable {θ:Nat->Loc} {ρ ρ0:j6} {P:Program}
mutual
def E6:∀{r:SV} {v:AV},cT r=some v->VS θ ρ r v
 | .a w,v,h=>by rw[cT] at h;cases h;rw[VS]
 | .ag cs,v,h=>by rw[cT] at h;obtain⟨aS,h1,rfl⟩:=az h;rw[VS];exact⟨aS,rfl,tx h1⟩
 | .any,_,h=>by simp[cT] at h
 | .sl _ _ _,_,h=>by simp[cT] at h
 | .im _ _,_,h=>by simp[cT] at h
 | .ip _,_,h=>by simp[cT] at h
 | .ptr _ _,_,h=>by simp[cT] at h
 | .map _,_,h=>by simp[cT] at h
 | .buf _ _ _ _,_,h=>by simp[cT] at h
 | .sub _ _ _ _ _,_,h=>by simp[cT] at h
 | .e0 _,_,h=>by simp[cT] at h
 | .cx _,_,h=>by simp[cT] at h
 | .fn _ _ _,_,h=>by simp[cT] at h
 | .iface t w,v,h=>by rw[cT] at h;obtain⟨a,h1,rfl⟩:=az h;rw[VS];exact⟨a,rfl,E6 h1⟩
def tx:∀{rs:List SV} {vs:List AV},iQ rs=some vs->c9 θ ρ rs vs
 | [],vs,h=>by rw[iQ] at h;cases h;rw[bj]
 | d::ds,vs,h=>by
  rw[iQ] at h;obtain⟨a,ha,h⟩:=ul h;obtain⟨b,hb,rfl⟩:=az h;rw[aN];exact⟨a,b,rfl,E6 ha,tx hb⟩
end
end
section
variable {P:Program} {ro:Option Nat} {Q:Ex->eu->Prop} {f f':Fm} {n:Nat} {S S':List SO} {ds:List jv}
def aG.Rk{id:Nat}{ops:Array Oper}{l':List Oper}(hs:de ops.toList n ops.toList=true)(h:oT P ops.toList ops.toList f S=(l',f',S'))(hk:aL P ro ops.toList l' ⟨f',n,S',ds⟩ (Q .normal)):aG P ro (.region id ops false) ⟨f,n,S,ds⟩ Q:=.region (.run hs h hk)
def aG.r0{id:Nat}{ops:Array Oper}(hs:de ops.toList n ops.toList=true)(h:oT P ops.toList ops.toList f S=([],f',S'))(hk:Q .normal ⟨f',n,S',ds⟩):aG P ro (.region id ops false) ⟨f,n,S,ds⟩ Q:=.Rk hs h (.nil hk)
def aL.r0{all l:List Oper}{K:eu->Prop}(hs:de all n l=true)(h:oT P all l f S=([],f',S'))(hk:K ⟨f',n,S',ds⟩):aL P ro all l ⟨f,n,S,ds⟩ K:=.run hs h (.nil hk)
theorem aL.k{all:List Oper}{o:Oper}{l:List Oper}{K:eu->Prop}{d:Nat}{c:Call}{g:FuncId}{vs ws:List SV}{r:SV}(hst:de all n [o]=true)(hop:o.op=.call c)(hdst:o.dst=some d)(hw:bM all f o.guard=some true)(hdy:fE (.call c)=true)
 (hc:iE P f c=some (g,vs)) (hq:PC P g ws (·=r)) (hwk:cu S vs ws) (hfl:vJ r=true\/cu [] vs ws) (hk:aL P ro all l ⟨(d,r)::f,n,S,ds⟩ K):aL P ro all (o::l) ⟨f,n,S,ds⟩ K:=by
 have hd:=(fD hst).1;rw[hdst] at hd;exact .call hop hdst (e8 hst hw) hdy hd hc hq hwk (hfl.imp (λh r hr=>by rw[hr];exact h) id) (λr hr=>by rw[hr];exact hk)
end
def Tu:(∀(a:SV) (l:List SV) (i:Nat),(a::l)[i+1]?=l[i]?)/\(∀(a:SV) (l:List SV),(a::l)[0]?=some a)/\(∀(a:AV) (l:List AV) (i:Nat),(a::l)[i+1]?=l[i]?)/\(∀(a:AV) (l:List AV),(a::l)[0]?=some a)/\(∀(a:SO) (l:List SO) (i:Nat),(a::l)[i+1]?=l[i]?)/\(∀(a:SO) (l:List SO),(a::l)[0]?=some a)/\(∀(a:Oper) (l:List Oper) (i:Nat),(a::l)[i+1]?=l[i]?)/\(∀(a:Oper) (l:List Oper),(a::l)[0]?=some a)/\(∀(a:SV) (l:List SV) (i:Nat),(a::l).drop (i+1)=l.drop i)/\(∀l:List SV,l.drop 0=l)/\(∀i:Nat,([]:List SV).drop i=[])/\(∀(i:Nat) (a:SV) (l:List SV),(a::l).take (i+1)=a::l.take i)/\(∀l:List SV,l.take 0=[])/\(∀i:Nat,([]:List SV).take i=[])/\(∀(p:SV->Bool) (a:SV) (l:List SV),(a::l).all p=(p a&&l.all p))/\(∀p:SV->Bool,([]:List SV).all p=true)/\(∀l:List SV,[]++l=l)/\(∀(a:SV) (l m:List SV),(a::l)++m=a::(l++m))/\(∀(a b:SV) (l:List SV),(a::l).set 0 b=b::l)/\(∀(a b:SV) (l:List SV) (i:Nat),(a::l).set (i+1) b=a::l.set i b)/\(∀l:List SO,[]++l=l)/\(∀(a:SO) (l m:List SO),(a::l)++m=a::(l++m))/\(∀(a b:SO) (l:List SO),(a::l).set 0 b=b::l)/\(∀(a b:SO) (l:List SO) (i:Nat),(a::l).set (i+1) b=a::l.set i b)/\(∀(a:SV) (l:List SV),(a::l).length=l.length+1)/\(([]:List SV).length=0)/\(∀(a:SO) (l:List SO),(a::l).length=l.length+1)/\(([]:List SO).length=0)/\(∀(a:AV) (l:List AV),(a::l).length=l.length+1)/\(([]:List AV).length=0):=by
 (repeat' apply bg)<;>intros<;>first | rfl | (simp;done) | (unfold ql;rfl)
def Tv:(∀(f:AV->SV) (a:AV) (l:List AV),(a::l).map f=f a::l.map f)/\(∀f:AV->SV,([]:List AV).map f=[])/\(∀(f:SV->SV) (a:SV) (l:List SV),(a::l).map f=f a::l.map f)/\(∀f:SV->SV,([]:List SV).map f=[])/\(∀(f:SO->SO) (a:SO) (l:List SO),(a::l).map f=f a::l.map f)/\(∀f:SO->SO,([]:List SO).map f=[])/\(∀(f:(Nat×SV)->(Nat×SV)) (a:(Nat×SV)) (l:List (Nat×SV)),(a::l).map f=f a::l.map f)/\(∀f:(Nat×SV)->(Nat×SV),([]:List (Nat×SV)).map f=[])/\(∀l:List Oper,l.toArray.toList=l)/\(∀l:List Operand,l.toArray.toList=l)/\(∀l:List TypeId,l.toArray.toList=l)/\(∀l:List (Nat×Operand),l.toArray.toList=l)/\(∀l:List ResultVar,l.toArray.toList=l)/\(∀x y:SV,cond true x y=x)/\(∀x y:SV,cond false x y=y)/\(∀x y:Bool,cond true x y=x)/\(∀x y:Bool,cond false x y=y)/\(∀x y:Option (SV×List SO×Option Nat),cond true x y=x)/\(∀x y:Option (SV×List SO×Option Nat),cond false x y=y)/\(∀x y:Option SV,cond true x y=x)/\(∀x y:Option SV,cond false x y=y)/\(∀x y:Option (List SO),cond true x y=x)/\(∀x y:Option (List SO),cond false x y=y)/\(∀n:Nat,0+n=n)/\(∀n:Nat,n+0=n)/\(∀n:Nat,0*n=0)/\(∀b,(b||false)=b)/\(∀b,(false||b)=b)/\(∀b,(b||true)=true)/\(∀b,(true||b)=true):=by
 (repeat' apply bg)<;>intros<;>first | rfl | (simp;done) | (unfold ql;rfl)
def Tw:(∀b,(b&&true)=b)/\(∀b,(true&&b)=b)/\(∀b,(b&&false)=false)/\(∀b,(false&&b)=false)/\((!true)=false)/\((!false)=true)/\(∀p:Prop,(p/\True)=p)/\(∀p:Prop,(True/\p)=p)/\((¬False)=True)/\((¬True)=False)/\(∀a b:Nat,(a≠b)=¬(a=b))/\(∀b:Bool,(b=b)=True)/\(∀n:Nat,(n=n)=True)/\((false=true)=False)/\((true=false)=False)/\(∀{α:Type} (p:Prop) [Decidable p] (x:Option α),ql p x=if p then x else none):=by
 (repeat' apply bg)<;>intros<;>first | rfl | (simp;done) | (unfold ql;rfl)
def Tx:(∀(k:IntKind) (n:Int),lO mG (.int k n)=some (.int k n))/\(∀b,lO mG (.bool b)=some (.bool b))/\(lO mG (.pointer none)=some (.ptr none))/\(lO mG (.slice none 0 0)=some (.slice none 0 0 (some 0)))/\(lO mG (.map none)=some (.map none))/\(lO mG .nilFunc=some .ef)/\(∀s,lO mG (.string s)=some (.str (s.data.toList.map (·.toNat))))/\(∀l:List UInt8,l.toArray.toList=l)/\(∀(f:UInt8->Nat) (a:UInt8) (l:List UInt8),(a::l).map f=f a::l.map f)/\(∀f:UInt8->Nat,([]:List UInt8).map f=[])/\(∀h:Decidable False,@decide False h=false)/\(∀h:Decidable True,@decide True h=true):=by
 (repeat' apply bg)<;>intros<;>first | rfl | (simp;done)
def Tz:(∀l:List (Nat×SV),[]++l=l)/\(∀(a:Nat×SV) (l m:List (Nat×SV)),(a::l)++m=a::(l++m))/\(∀z:List AV,rep z 0=[])/\(∀(z:List AV) (n:Nat),rep z (n+1)=z++rep z n)/\(∀l:List AV,[]++l=l)/\(∀(a:AV) (l m:List AV),(a::l)++m=a::(l++m))/\(∀s,(AV.str s).cells=[.str s])/\(∀k n,(AV.int k n).cells=[.int k n])/\(∀b,(AV.bool b).cells=[.bool b])/\(∀o n e c,(AV.slice o n e c).cells=[.slice o n e c])/\(∀o,(AV.ptr o).cells=[.ptr o])/\(∀o,(AV.map o).cells=[.map o])/\(AV.ef.cells=[.ef])/\(AV.wM.cells=[.wM]):=by
 (repeat' apply bg)<;>intros<;>first | rfl | (simp;done)
def bI:type_of% Tu/\type_of% Tv/\type_of% Tw/\type_of% Tx/\type_of% Tz:=⟨Tu,Tv,Tw,Tx,Tz⟩
def fF(k:Nat):((k+1:Nat):Int)=(k:Int)+1:=rfl
def Nz{k l B:Nat}(h1:k<l)(h2:l<=B)(hB:B<=9223372036854775807) : -9223372036854775808<=(k:Int)+1/\(k:Int)+1<=9223372036854775807:=⟨by omega,by omega⟩
def Bh.of{fn:Func}{Q:SV->Prop}{e:Ex}{f:Fm}{n:Nat}{S:List SO}{rs:List ResultVar}{vs:List SV}{r:SV}(he:ke e=true)(hr:fn.results.toList=rs)(h:oQ P f S rs=some vs)(hw:Wk S (eC vs) r)(hq:Q r):Bh P fn Q e ⟨f,n,S,[]⟩:=by
 subst hr;exact⟨he,rfl,vs,r,h,hw,hq⟩
abbrev ah(s:List Nat):SV:=.a (.str s)
abbrev ab(n:Int):SV:=.a (.int .i64 n)
abbrev ai(b:Bool):SV:=.a (.bool b)
variable{α:Type}
def an(e:Nat)(l:List α)(enc:α->List SV):SV:=.sl l.length e (l.flatMap enc)
def aQ{α:Type}{e:Nat}{enc:α->List SV}(he:∀x,(enc x).length=e):∀{l:List α} {i:Nat} {x:α},l[i]?=some x->((l.flatMap enc).drop (i*e)).take e=enc x
 | [],i,x,h=>by simp at h
 | a::l,0,x,h=>by
  simp only[ax,qr] at h;subst h;rw[b0,b7,cH,List.take_append_of_le_length (by rw[he];exact bw _),ch (by rw[he];exact bw _)]
 | a::l,i+1,x,h=>by
  simp only[ap] at h;have ih:=aQ he h;rw[cH,d2,Nat.add_comm,<-a5,show List.drop e (enc a++l.flatMap enc)=l.flatMap enc from by rw[List.drop_append_of_le_length (by rw[he];exact bw _),br (by rw[he];exact bw _),c6]];exact ih
def fO(p:α->Bool)(l:List α):Int:=match l.findIdx? p with
 | some k=>(k:Int)
 | none => -1
def lT{p:α->Bool}{l:List α}{k:Nat}{x:α}(h1:l[k]?=some x)(h2:p x=true)(h3:∀(i:Nat) y,i<k->l[i]?=some y->p y=false):fO p l=(k:Int):=by
 have:l.findIdx? p=some k:=by
  rw[List.findIdx?_eq_some_iff_getElem];obtain⟨hlt,he⟩:=rt h1;refine⟨hlt,by rw[he];exact h2,λj hj=>?_⟩;rw[h3 j _ hj (jp i4)];decide
 unfold fO;rw[this]
def ib{p:α->Bool}{l:List α}(h3:∀(i:Nat) y,i<l.length->l[i]?=some y->p y=false):fO p l = -1:=by
 have:l.findIdx? p=none:=by
  rw[List.findIdx?_eq_none_iff];intro x hx;obtain⟨i,hi⟩:=List.mem_iff_getElem?.1 hx;exact h3 i x (bq hi) hi
 unfold fO;rw[this]
def aH(c:α->SV)(x:α):List SV:=[c x]
def PC.of{g:FuncId}{aS:List SV}{xs:List AV}{v:AV}(h:∀h,dZ P (.func g) xs h (λa h'=>a=v/\h'=h))(hx:∀ρ avs,jR ρ aS avs->avs=xs):PC P g aS (·=.a v):=
 λρ hh avs h1 h2=>by
  have:=hx ρ avs h2;subst this;exact(h hh).mono λa h' ⟨e1,e2⟩=>⟨.a v,ρ,rfl,by rw[e2];exact .refl _ _,λid ob hi=>.inl hi,by rw[GS];exact e1⟩
def pP(e:Nat)(l:List α)(enc:α->List SV):an e l enc=.sl l.length e (l.flatMap enc):=rfl
section
variable {P:Program} {K U:Type} [DecidableEq K] {kv:K->AV} {uv:U->SV} {S:List SO} {t kt et:TypeId} {z:AV} {u0:U} {l:List (K×U)} {o:Nat} {x:SV} {k:K}
def bE(kv:K->AV)(uv:U->SV)(l:List (K×U)):SO:=.map (l.map λe=>kv e.1) (l.map λe=>uv e.2) none
abbrev lU(kv:K->AV)(uv:U->SV)(l:List (K×U)):SV:=.im (l.map λe=>kv e.1) (l.map λe=>uv e.2)
def re(hk:Keys P kt kv)(k:K):∀(l:List (K×U)) (j:Nat),tv P kt (kv k) (l.map λe=>kv e.1) j=some (vq k l j)
 | [],_=>rfl
 | e::l,j=>by
  rw[am,tv,hk.eq];by_cases h:k=e.1
  ·simp only[h,decide_true,vq,if_true]
  ·simp only[h,decide_false,vq,if_false];exact re hk k l (j+1)
def FA(hm:dy P t=some (kt,et))(hk:Keys P kt kv)(hz:dm P et=some z)(hu:ui z=uv u0)(hS:Az S x=some (l.map (λe=>kv e.1),l.map λe=>uv e.2)){y:SV}(hf:cT y=some (kv k))(ok:Bool):
 jc P S t x y ok=some (_root_.cond ok (.cx [uv (getM u0 k l),ai (dF k l)]) (uv (getM u0 k l))):=by
 unfold jc;rw[hm,m7];simp only;rw[hf,m7,hk.ck,ak,hS,m7];simp only;rw[re hk,m7]
 cases hp:vq k l 0 with
 | none=>
  have hn:=rD hp;simp only[hz,m6,yq hn,hn,hu]
 | some i=>
  obtain⟨_,u,h2,h3,_,h5⟩:=oO hp;rw[cN] at h2;simp only[a7,h2,m6,h3,h5]
def NJ(hm:dy P t=some (kt,et))(hk:Keys P kt kv)(hz:dm P et=some z)(hu:ui z=uv u0)(hS:S[o]?=some (bE kv uv l))(hf:cT x=some (kv k))(ok:Bool):
 jc P S t (.map o) x ok=some (_root_.cond ok (.cx [uv (getM u0 k l),ai (dF k l)]) (uv (getM u0 k l))):=
 FA hm hk hz hu (by simp only[Az,hS,bE]) hf ok
def Re(hm:dy P t=some (kt,et))(hk:Keys P kt kv)(hz:dm P et=some z)(hu:ui z=uv u0)(hf:cT x=some (kv k))(ok:Bool):
 jc P S t (lU kv uv l) x ok=some (_root_.cond ok (.cx [uv (getM u0 k l),ai (dF k l)]) (uv (getM u0 k l))):=
 FA hm hk hz hu (by simp only[lU,Az]) hf ok
def Ir(hm:dy P t=some (kt,et))(hk:Keys P kt kv)(hS:S[o]?=some (bE kv uv l))(hf:cT x=some (kv k))(u:U):
 ik P S t (.map o) x (uv u)=some (S.set o (bE kv uv (cy k u l))):=by
 unfold ik;rw[hm,m7];simp only;rw[hf,m7,hk.ck,ak,hS];simp only[bE];rw[re hk,m7]
 cases hp:vq k l 0 with
 | none=>
  have hn:=rD hp;simp only[qH hn,bt,am,bv,Option.map_none]
 | some i=>
  obtain⟨_,u',h2,_,h4,_⟩:=oO hp;rw[cN] at h2;have h4:=h4 u;rw[cN] at h4;simp only[a7,h2,m6,m7,hk.st,ak,h4,List.map_set]
omit [DecidableEq K] in
def mr{n:Nat}(h:∀u,names n (uv u)=false):bF n (bE kv uv l)=bE kv uv l:=by
 simp only[bF,bE,List.map_map]
 congr 1
 refine List.map_congr_left λe _=>?_;simp only[Function.comp,aM,h,au]
omit [DecidableEq K] in
def pC(h:∀u,mq (uv u)=true):∀l:List (K×U),bR (l.map λe=>uv e.2)=true
 | []=>rfl
 | e::l=>by rw[am,bR,h,b9];exact pC h l
omit [DecidableEq K] in
def mc(h:∀u,mq (uv u)=true)(hS:S[o]?=some (bE kv uv l)):Wk S (.map o) (lU kv uv l):=Wk.map hS (cu.refl (pC h l))
end
def NC{kt:TypeId}(h:P.underlying kt=some .string):Keys P kt AV.str where
 eq a b:=by unfold lu;rw[h];simp only[ly]
 ck a:=by unfold wK EP;rw[h]
 st a:=by unfold stays Di;simp only[mH,Bool.true_and];exact Bo _ _
def qz{n:Nat}{l:List (List Nat×Bool)}:bF n (bE AV.str ai l)=bE AV.str ai l:=mr λ_=>l8 _
def RY{n:Nat}{l:List (List Nat×Int)}:bF n (bE AV.str ab l)=bE AV.str ab l:=mr λ_=>l8 _
inductive Kd where
 | b
 | i (k:IntKind)
 | s
def Mk:Kd->AV->Bool
 | .b,.bool _=>true
 | .i k,.int k' _=>AI k k'
 | .s,.str _=>true
 | _,_=>false
def rP:List Kd->List AV->Bool
 | [],[]=>true
 | k::ks,x::xs=>Mk k x&&rP ks xs
 | _,_=>false
def yl(P:Program)(rec:TypeId->Option (List Kd)):List Field->Nat->Option (List Kd)
 | [],_=>some []
 | f::fs,off=>cond (!(f.name== "_")&&beq f.offset off) ((rec f.type).bind λks=>(yl P rec fs (off+ks.length)).map λr=>ks++r) none
def flatK(P:Program):Nat->TypeId->Option (List Kd)
 | 0,_=>none
 | d+1,t=>match P.underlying t,Hc P t with
  | some .bool,some (1,false)=>some [.b]
  | some (.int k),some (1,false)=>some [.i k]
  | some .string,some (1,false)=>some [.s]
  | some (.struct fs),some (n,true)=>cond (P.stoodInHeld t) none ((yl P (flatK P d) fs.toList 0).bind λks=>cond (beq ks.length n) (some ks) none)
  | _,_=>none
def yB:∀{ks:List Kd} {xs:List AV},rP ks xs=true->xs.length=ks.length
 | [],[],_=>rfl
 | [],_::_,h=>by cases h
 | _::_,[],h=>by cases h
 | k::ks,x::xs,h=>by
  rw[rP,ac] at h;simp[yB h.2]
def sD:∀{k1 k2:List Kd} {xs:List AV},rP (k1++k2) xs=true->rP k1 (xs.take k1.length)=true/\rP k2 (xs.drop k1.length)=true
 | [],k2,xs,h=>⟨rfl,h⟩
 | k::k1,k2,[],h=>by cases h
 | k::k1,k2,x::xs,h=>by
  have h:(Mk k x&&rP (k1++k2) xs)=true:=h;rw[ac] at h;obtain⟨h1,h2⟩:=sD h.2;exact⟨by show(Mk k x&&rP k1 (xs.take k1.length))=true;rw[h.1,h1];rfl,h2⟩
def xO(e:AV->AV->Bool):∀(n:Nat) {xs ys:List AV},xs.length=ys.length->fJ e xs ys=(fJ e (xs.take n) (ys.take n)&&fJ e (xs.drop n) (ys.drop n))
 | 0,xs,ys,_=>by rw[List.take_zero,List.take_zero];rfl
 | n+1,[],[],_=>rfl
 | n+1,x::xs,y::ys,h=>by
  have h:xs.length=ys.length:=by simpa using h
  show(e x y&&fJ e xs ys)=((e x y&&fJ e (xs.take n) (ys.take n))&&fJ e (xs.drop n) (ys.drop n));rw[xO e n h,Bool.and_assoc]
 | n+1,[],y::ys,h=>by simp at h
 | n+1,x::xs,[],h=>by simp at h
section
variable {P:Program}
def EqAt(P:Program)(d:Nat)(t:TypeId)(ks:List Kd):Prop:=
 (∃k,ks=[k]/\Hc P t=some (1,false)/\∀x y,Mk k x=true->Mk k y=true->lu P d t x y=some (eE x y)/\EP P d t x=true)\/
 (Hc P t=some (ks.length,true)/\∀xs ys,rP ks xs=true->rP ks ys=true->lu P d t (.agg xs) (.agg ys)=some (fJ eE xs ys)/\EP P d t (.agg xs)=true)
def Br{d:Nat}(hrec:∀t ks,flatK P d t=some ks->EqAt P d t ks):∀{fs:List Field} {off:Nat} {ks:List Kd},yl P (flatK P d) fs off=some ks->∀xs ys,xs.length=ys.length->off+ks.length=xs.length->rP ks (xs.drop off)=true->rP ks (ys.drop off)=true->
 eqFields P (lu P d) fs xs ys=some (fJ eE (xs.drop off) (ys.drop off))/\ou P (EP P d) fs xs=true
 | [],off,ks,h,xs,ys,hl,hle,h1,h2=>by
  simp only[yl,qr] at h;subst h;have e1:xs.drop off=[]:=List.drop_of_length_le (by simp at hle;omega);have e2:ys.drop off=[]:=List.drop_of_length_le (by simp at hle;omega);rw[e1,e2];exact⟨rfl,rfl⟩
 | f::fs,off,ks,h,xs,ys,hl,hle,h1,h2=>by
  simp only[yl] at h;obtain⟨hb,h⟩:=aI h;rw[Bool.and_eq_true] at hb;have hoff:=cU hb.2
  have hnm:(f.name== "_")=false:=by have:=hb.1;cases hq:(f.name== "_");rfl;rw[hq] at this;cases this
  obtain⟨k1,hk1,h⟩:=ul h;obtain⟨r,hr,rfl⟩:=az h;obtain⟨a1,a2⟩:=sD h1;obtain⟨b1,b2⟩:=sD h2;rw[List.drop_drop] at a2 b2;rw[li] at hle;obtain⟨ih1,ih2⟩:=Br hrec hr xs ys hl i4 a2 b2;have hs:=xO eE k1.length (xs:=xs.drop off) (ys:=ys.drop off) (by rw[List.length_drop,List.length_drop,hl]);rw[List.drop_drop,List.drop_drop] at hs
  have hpart:∃p q,eZ P f.type xs f.offset=some p/\eZ P f.type ys f.offset=some q/\lu P d f.type p q=some (fJ eE ((xs.drop off).take k1.length) ((ys.drop off).take k1.length))/\EP P d f.type p=true:=by
   rw[hoff]
   rcases hrec _ _ hk1 with⟨k,rfl,hz,hq⟩ | ⟨hz,hq⟩
   ·obtain⟨z1,z2⟩:=uC hz;simp only[i7,i5,Nat.zero_add] at hle a1 b1 ⊢;obtain⟨x,hx⟩:∃x,xs[off]?=some x:=⟨xs[off],jp i4⟩;obtain⟨y,hy⟩:∃y,ys[off]?=some y:=⟨ys[off],jp i4⟩
    have ex:(xs.drop off).take 1=[x]:=by rw[List.take_one,List.head?_drop,hx];rfl
    have ey:(ys.drop off).take 1=[y]:=by rw[List.take_one,List.head?_drop,hy];rfl
    rw[ex] at a1;rw[ey] at b1;simp only[rP,Bool.and_true] at a1 b1;obtain⟨q1,q2⟩:=hq x y a1 b1;refine⟨x,y,?_,?_,?_,q2⟩
    ·unfold eZ;rw[z1];exact hx
    ·unfold eZ;rw[z1];exact hy
    ·rw[ex,ey,q1];simp only[fJ,Bool.and_true]
   ·obtain⟨z1,z2⟩:=uC hz;obtain⟨q1,q2⟩:=hq _ _ a1 b1;refine⟨_,_,?_,?_,q1,q2⟩
    ·unfold eZ;rw[z1];simp only;rw[z2,m7,fc (by simp only;omega),ak]
    ·unfold eZ;rw[z1];simp only;rw[z2,m7,fc (by simp only;omega),ak]
  obtain⟨p,q,g1,g2,g3,g4⟩:=hpart;refine⟨?_,?_⟩
  ·unfold eqFields;rw[hnm,au,g1,g2];simp only;rw[g3,hs];cases fJ eE ((xs.drop off).take k1.length) ((ys.drop off).take k1.length)
   ·rfl
   ·simp only[Bool.true_and];exact ih1
  ·unfold ou;rw[hnm,g1];simp only;rw[g4,ih2];rfl
def ym:∀(d:Nat) (t:TypeId) (ks:List Kd),flatK P d t=some ks->EqAt P d t ks
 | 0,t,ks,h=>by simp[flatK] at h
 | d+1,t,ks,h=>by
  unfold flatK at h;split at h
  ·rename_i hu hz;cases h;refine .inl ⟨.b,rfl,hz,λx y hx hy=>?_⟩
   cases x<;>first | (simp[Mk] at hx;done) | skip
   cases y<;>first | (simp[Mk] at hy;done) | skip
   rename_i a b;constructor
   ·unfold lu;rw[hu];simp only[eE];cases a<;>cases b<;>rfl
   ·unfold EP;rw[hu]
  ·rename_i k hu hz;cases h;refine .inl ⟨.i k,rfl,hz,λx y hx hy=>?_⟩
   cases x<;>first | (simp[Mk] at hx;done) | skip
   cases y<;>first | (simp[Mk] at hy;done) | skip
   rename_i k1 a k2 b;simp only[Mk] at hx hy
   have e1:k=k1:=by cases k<;>cases k1<;>first | rfl | cases hx
   have e2:k=k2:=by cases k<;>cases k2<;>first | rfl | cases hy
   subst e1;subst e2;constructor
   ·unfold lu;rw[hu];simp only[eE,hx,ak,Bool.true_and]
   ·unfold EP;rw[hu]
  ·rename_i hu hz;cases h;refine .inl ⟨.s,rfl,hz,λx y hx hy=>?_⟩
   cases x<;>first | (simp[Mk] at hx;done) | skip
   cases y<;>first | (simp[Mk] at hy;done) | skip
   constructor
   ·unfold lu;rw[hu];rfl
   ·unfold EP;rw[hu]
  ·rename_i fs n hu hz;cases hst:P.stoodInHeld t
   ·rw[hst,au] at h;obtain⟨ks',hk,h⟩:=ul h;obtain⟨hn,h⟩:=aI h;cases h;have hn:=cU hn;subst hn;refine .inr ⟨hz,λxs ys hx hy=>?_⟩;have l1:=yB hx;have l2:=yB hy;obtain⟨r1,r2⟩:=Br (ym d) hk xs ys i4 i4 hx hy;constructor
    ·unfold lu;rw[hu];simp only;rw[hst,au];exact r1
    ·unfold EP;rw[hu];exact r2
   ·rw[hst] at h;cases h
  ·cases h
def vb{K:Type}[DecidableEq K]{t:TypeId}{ks:List Kd}{cells:K->List AV}(hf:flatK P 4 t=some ks)(ha:(Hc P t).map (·.2)=some true)(hk:∀a,rP ks (cells a)=true)(he:∀a b,fJ eE (cells a) (cells b)=decide (a=b))(hfl:∀a,(cells a).all mH=true):Keys P t λa=>.agg (cells a):=by
 have key:∀a b,lu P 4 t (.agg (cells a)) (.agg (cells b))=some (decide (a=b))/\EP P 4 t (.agg (cells a))=true:=by
  intro a b
  rcases ym 4 t ks hf with⟨k,rfl,hz,_⟩ | ⟨_,hq⟩
  ·rw[hz] at ha;cases ha
  ·rw[<-he a b];exact hq _ _ (hk a) (hk b)
 refine⟨λa b=>(key a b).1,λa=>(key a a).2,λa=>?_⟩;unfold stays Di;show((cells a).all mH&&gL 3 (.agg (cells a)) (.agg (cells a)))=true;rw[hfl a,b9];refine K2 _ _ ?_
 have:∀l:List AV,l.all mH=true->fJ (gL 2) l l=true:=by
  intro l
  induction l with
  | nil=>intro _;rfl
  | cons x l ih=>
   intro h;rw[cl,ac] at h;show(gL 2 x x&&fJ (gL 2) l l)=true;rw[ih h.2,ct]
   cases x<;>first | (cases h.1;done) | exact HN _ _ | exact K3 _ _ _ | exact Bo _ _
 exact this _ (hfl a)
def sV{t:TypeId}{ks:List Kd}{xs ys:List AV}{b:Bool}(hg:P.eqGuardType P.depth t=false)(hf:flatK P 8 t=some ks)(ha:(Hc P t).map (·.2)=some true)(hx:rP ks xs=true)(hy:rP ks ys=true)(he:fJ eE xs ys=b):dk P .eql t (.agg xs) (.agg ys)=some (.bool b):=by
 have:lu P 8 t (.agg xs) (.agg ys)=some b:=by
  rcases ym 8 t ks hf with⟨k,rfl,hz,_⟩ | ⟨_,hq⟩
  ·rw[hz] at ha;cases ha
  ·rw[<-he];exact(hq _ _ hx hy).1
 show cond (P.eqGuardType P.depth t) none ((lu P 8 t (.agg xs) (.agg ys)).map AV.bool)=_;rw[hg,au,this];rfl
end
mutual
def fo(r:Nat->Nat):SV->SV
 | .any=>.any
 | .a v=>.a v
 | .sl n e cs=>.sl n e cs
 | .im ks vs=>.im ks vs
 | .ip cs=>.ip cs
 | .ptr o off=>.ptr (r o) off
 | .map o=>.map (r o)
 | .buf o n e c=>.buf (r o) n e c
 | .sub o off n e c=>.sub (r o) off n e c
 | .e0 e=>.e0 e
 | .ag cs=>.ag (mP r cs)
 | .cx cs=>.cx (mP r cs)
 | .fn g a b=>.fn g (mP r a) (mP r b)
 | .iface t v=>.iface t (fo r v)
def mP(r:Nat->Nat):List SV->List SV
 | []=>[]
 | d::ds=>fo r d::mP r ds
end
def QD(r:Nat->Nat):Fm->Fm
 | []=>[]
 | (d,v)::f=>(d,fo r v)::QD r f
def pM(r:Nat->Nat):SO->SO
 | .cells cs=>.cells (mP r cs)
 | .map ks vs b=>.map ks (mP r vs) b
 | .iter m bs c pos=>.iter (fo r m) bs c pos
 | .oE ks vs bs c pos=>.oE ks vs bs c pos
 | .gone=>.gone
 | .loop c ls p f=>.loop c ls p (QD r f)
 | .ml N=>.ml N
def jQ(os:List Nat)(B i:Nat):Nat:=match os[i]? with
 | some o=>o
 | none=>B+(i-os.length)
mutual
def dD(B:Nat):SV->Bool
 | .ptr o _=>decide (o<B)
 | .map o=>decide (o<B)
 | .buf o _ _ _=>decide (o<B)
 | .sub o _ _ _ _=>decide (o<B)
 | .ag cs=>iI B cs
 | .cx cs=>iI B cs
 | .fn _ a b=>iI B a&&iI B b
 | .iface _ v=>dD B v
 | _=>true
def iI(B:Nat):List SV->Bool
 | []=>true
 | d::ds=>dD B d&&iI B ds
end
def EF(B:Nat):Fm->Bool
 | []=>true
 | (_,v)::f=>dD B v&&EF B f
def mC(B:Nat):SO->Bool
 | .cells cs=>iI B cs
 | .map _ vs _=>iI B vs
 | .iter m _ _ _=>dD B m
 | .oE _ _ _ _ _=>true
 | .gone=>true
 | .loop _ _ _ f=>EF B f
 | .ml _=>true
def uM(B:Nat):List SO->Bool
 | []=>true
 | s::l=>mC B s&&uM B l
def mM:List Nat->SV->SV
 | [],v=>v
 | k::ks,v=>mM ks (aM k v)
def nY:List Nat->Fm->Fm
 | [],f=>f
 | k::ks,f=>nY ks (bX k f)
def fQ:List Nat->List SO->List SO
 | [],S=>S
 | k::ks,S=>fQ ks (cA k S)
def gy:List SO->List Nat->List SO->List SO
 | S,[],ss=>S++ss
 | S,o::os,s::ss=>gy (S.set o s) os ss
 | S,_::_,[]=>S
section
variable {θ θ':Nat->Loc} {ρ ρ0 ρ':j6} {P:Program} {h0:En} {h h1:H} {S S' S0:List SO}
mutual
def VS.rn(r:Nat->Nat):∀{v:SV} {x:AV},VS θ ρ (fo r v) x↔VS (λp=>θ (r p)) ρ v x
 | .any,_=>by rw[fo,VS,VS]
 | .a v,x=>by rw[fo,VS,VS]
 | .sl n e cs,x=>by rw[fo,VS,VS]
 | .im ks vs,x=>by rw[fo,VS,VS]
 | .ip cs,x=>by rw[fo,VS,VS]
 | .ptr p _,_=>by rw[fo,VS,VS]
 | .map p,_=>by rw[fo,VS,VS]
 | .buf p _ _ _,_=>by rw[fo,VS,VS]
 | .sub p _ _ _ _,_=>by rw[fo,VS,VS]
 | .e0 _,_=>by rw[fo,VS,VS]
 | .ag cs,x=>by rw[fo,VS,VS];exact exists_congr λ_=>and_congr_right λ_=>c9.rn r
 | .cx cs,x=>by rw[fo,VS,VS];exact exists_congr λ_=>and_congr_right λ_=>c9.rn r
 | .fn g f c,x=>by rw[fo,VS,VS];exact exists_congr λ_=>exists_congr λ_=>and_congr_right λ_=>and_congr (c9.rn r) (c9.rn r)
 | .iface t v,x=>by rw[fo,VS,VS];exact exists_congr λ_=>and_congr_right λ_=>VS.rn r
def c9.rn(r:Nat->Nat):∀{ds:List SV} {aS:List AV},c9 θ ρ (mP r ds) aS↔c9 (λp=>θ (r p)) ρ ds aS
 | [],aS=>by rw[mP,bj,bj]
 | d::ds,aS=>by rw[mP,aN,aN];exact exists_congr λ_=>exists_congr λ_=>and_congr_right λ_=>and_congr (VS.rn r) (c9.rn r)
end
def xo(r:Nat->Nat):∀(f:Fm) (i:Nat),aK (QD r f) i=fo r (aK f i)
 | [],i=>by rw[show aK [] i=.any from rfl,fo];rfl
 | (d,v)::f,i=>by
  show(if d=i then fo r v else aK (QD r f) i)=fo r (if d=i then v else aK f i);rw[xo r f i];by_cases h:d=i
  ·rw[ut h,ut h]
  ·rw[v6 h,v6 h]
def EG{B:Nat}:∀{f:Fm} {i:Nat},EF B f=true->dD B (aK f i)=true
 | [],i,_=>by rw[show aK ([]:Fm) i=.any from rfl];simp[dD]
 | (d,v)::f,i,h=>by
  rw[EF,ac] at h;show dD B (if d=i then v else aK f i)=true;by_cases e:d=i
  ·rw[ut e];exact h.1
  ·rw[v6 e];exact EG h.2
def ni.rn(r:Nat->Nat){L:Loc}{so:SO}:ni θ ρ h L (pM r so)↔ni (λp=>θ (r p)) ρ h L so:=by
 cases so with
 | cells cs=>exact exists_congr λ_=>and_congr_right λ_=>and_congr_left λ_=>c9.rn r
 | map ks vs b=>exact exists_congr λ_=>exists_congr λ_=>and_congr_right λ_=>and_congr_right λ_=>c9.rn r
 | iter m bs c pos=>exact exists_congr λ_=>and_congr_left λ_=>VS.rn r
 | oE ks vs bs c pos=>exact Iff.rfl
 | gone=>exact Iff.rfl
 | loop c ls p f=>exact and_congr_right λ_=>and_congr_right λ_=>forall_congr' λi=>forall_congr' λ_=>by rw[xo];exact VS.rn r
 | ml N=>exact Iff.rfl
def e7{r:Nat->Nat}{so:SO}:pM r so≠.gone↔so≠.gone:=by
 cases so<;>simp[pM]
mutual
def VS.ll{B:Nat}(hθ:∀q,q<B->(θ' q).id=(θ q).id):∀{v:SV} {x:AV},dD B v=true->VS θ ρ v x->VS θ' ρ v x
 | .any,_,_,_=>by rw[VS];trivial
 | .a v,x,_,h=>by rw[VS] at h ⊢;exact h
 | .sl n e cs,x,_,h=>by rw[VS] at h ⊢;exact h
 | .im ks vs,x,_,h=>by rw[VS] at h ⊢;exact h
 | .ip cs,x,_,h=>by rw[VS] at h ⊢;exact h
 | .ptr p _,_,hn,h=>by rw[VS] at h ⊢;rw[dD] at hn;rw[hθ p (ww hn)];exact h
 | .map p,_,hn,h=>by rw[VS] at h ⊢;rw[dD] at hn;rw[hθ p (ww hn)];exact h
 | .buf p _ _ _,_,hn,h=>by rw[VS] at h ⊢;rw[dD] at hn;rw[hθ p (ww hn)];exact h
 | .sub p _ _ _ _,_,hn,h=>by rw[VS] at h ⊢;rw[dD] at hn;rw[hθ p (ww hn)];exact h
 | .e0 e,x,_,h=>by rw[VS] at h ⊢;exact h
 | .ag cs,x,hn,h=>by rw[VS] at h ⊢;rw[dD] at hn;obtain⟨aS,h1,h2⟩:=h;exact⟨aS,h1,c9.ll hθ hn h2⟩
 | .cx cs,x,hn,h=>by rw[VS] at h ⊢;rw[dD] at hn;obtain⟨aS,h1,h2⟩:=h;exact⟨aS,h1,c9.ll hθ hn h2⟩
 | .fn g f c,x,hn,h=>by
  rw[VS] at h ⊢;rw[dD,ac] at hn;obtain⟨xs,ys,h1,h2,h3⟩:=h;exact⟨xs,ys,h1,c9.ll hθ hn.1 h2,c9.ll hθ hn.2 h3⟩
 | .iface t v,x,hn,h=>by rw[VS] at h ⊢;rw[dD] at hn;obtain⟨y,h1,h2⟩:=h;exact⟨y,h1,VS.ll hθ hn h2⟩
def c9.ll{B:Nat}(hθ:∀q,q<B->(θ' q).id=(θ q).id):∀{ds:List SV} {aS:List AV},iI B ds=true->c9 θ ρ ds aS->c9 θ' ρ ds aS
 | [],aS,_,h=>by rw[bj] at h ⊢;exact h
 | d::ds,aS,hn,h=>by
  rw[aN] at h ⊢;rw[iI,ac] at hn;obtain⟨a,r,h1,h2,h3⟩:=h;exact⟨a,r,h1,VS.ll hθ hn.1 h2,c9.ll hθ hn.2 h3⟩
end
def ni.ll{B:Nat}(hθ:∀q,q<B->(θ' q).id=(θ q).id){L:Loc}{so:SO}(hn:mC B so=true)(hx:ni θ ρ h L so):ni θ' ρ h L so:=by
 cases so with
 | cells cs=>obtain⟨aS,h1,h2,h3⟩:=hx;exact⟨aS,h1,h2.ll hθ hn,h3⟩
 | map ks vs b=>obtain⟨l,c,h1,h2,h3⟩:=hx;exact⟨l,c,h1,h2,h3.ll hθ hn⟩
 | iter m bs c pos=>obtain⟨kL,h1,h2⟩:=hx;exact⟨kL,h1.ll hθ hn,h2⟩
 | oE ks vs bs c pos=>exact hx
 | gone=>trivial
 | loop c ls p f=>
  obtain⟨h1,h2,h3⟩:=hx;exact⟨h1,h2,λi hi=>(h3 i hi).ll hθ (EG hn)⟩
 | ml N=>exact hx
def EH{B:Nat}:∀{S:List SO} {i:Nat} {so:SO},uM B S=true->S[i]?=some so->mC B so=true
 | [],i,so,_,h=>by simp at h
 | s::l,0,so,hb,h=>by rw[uM,ac] at hb;simp only[ax,qr] at h;subst h;exact hb.1
 | s::l,i+1,so,hb,h=>by rw[uM,ac] at hb;exact EH hb.2 (by simpa using h)
def Hd(θ:Nat->Loc):List Nat->(Nat->Loc)->Nat->Loc
 | [],_=>θ
 | k::ks,θ'=>Hd (gB θ k (θ' k)) ks θ'
def xD:∀{ks:List Nat} {θ:Nat->Loc} {p:Nat},(p∈ks\/θ p=θ' p)->Hd θ ks θ' p=θ' p
 | [],θ,p,h=>by rcases h with h | h;(· simp at h);(· exact h)
 | k::ks,θ,p,h=>by
  rw[Hd];by_cases e:p=k
  ·subst e;exact xD (.inr (cF _ _ _))
  ·rcases h with h | h
   ·rcases t7 h with h | h
    ·exact un h e
    ·exact xD (.inl h)
   ·exact xD (.inr (by rw[bY _ _ e];exact h))
def He:∀{ks:List Nat} {θ:Nat->Loc} {p:Nat},p∉ks->Hd θ ks θ' p=θ p
 | [],θ,p,h=>rfl
 | k::ks,θ,p,h=>by
  rw[Hd,He (λe=>h (b8 _ e)),bY _ _ (λe=>h (by rw[e];exact cb))]
def Ft:∀{ks:List Nat} {θ:Nat->Loc} {v:SV} {x:AV},VS θ ρ v x->VS (Hd θ ks θ') ρ (mM ks v) x
 | [],θ,v,x,h=>h
 | k::ks,θ,v,x,h=>by
  rw[Hd,mM];exact Ft (iS (θ':=gB θ k (θ' k)) (λp hp=>bY _ _ hp) h)
def yh:∀(ks:List Nat) (f:Fm) (i:Nat),aK (nY ks f) i=mM ks (aK f i)
 | [],f,i=>rfl
 | k::ks,f,i=>by rw[nY,mM,yh ks,ez]
def ji:∀(ks:List Nat) (S:List SO),(fQ ks S).length=S.length
 | [],S=>rfl
 | k::ks,S=>by rw[fQ,ji ks];unfold cA;rw[a3]
def Lm{f g:SV->SV}(so:SO):sF f (sF g so)=sF (λv=>f (g v)) so:=by cases so<;>simp[sF]
def yG:∀(ks:List Nat) (S:List SO) (p:Nat),(fQ ks S)[p]?=(S[p]?).map (sF (mM ks))
 | [],S,p=>by
  show S[p]?=_
  cases S[p]? with
  | none=>rfl
  | some s=>rw[m6];exact rc some (tI s).symm
 | k::ks,S,p=>by
  rw[fQ,yG ks,rl]
  cases S[p]? with
  | none=>rfl
  | some s=>simp only[m6,Lm];rfl
def B3:∀{os:List Nat} {S ss:List SO} (p:Nat),os.Nodup->(∀o∈os,o<S.length)->os.length<=ss.length->
 (∀i:Nat,os[i]?=some p->(gy S os ss)[p]?=ss[i]?)/\(p∉os->p<S.length->(gy S os ss)[p]?=S[p]?)/\(S.length<=p->(gy S os ss)[p]?=ss[os.length+(p-S.length)]?)
 | [],S,ss,p,_,_,_=>by
  refine⟨λi h=>by simp at h,λ_ hl=>?_,λhl=>?_⟩
  ·rw[gy,List.getElem?_append_left hl]
  ·rw[gy,bb hl,i5,bd]
 | o::os,S,[],p,_,_,hl=>by simp at hl
 | o::os,S,s::ss,p,hn,ho,hl=>by
  rw[List.nodup_cons] at hn;have ih:=B3 (os:=os) (S:=S.set o s) (ss:=ss) p hn.2 (λx hx=>by rw[c5];exact ho x (b8 _ hx)) (by simpa using hl);have hol:=ho o cb;rw[c5] at ih;refine⟨λi h=>?_,λh1 h2=>?_,λh1=>?_⟩
  ·cases i with
   | zero=>
    simp only[ax,qr] at h;subst h;rw[gy,ih.2.1 hn.1 hol,ay hol];rfl
   | succ i=>
    simp only[ap] at h;rw[gy,ih.1 i h];rfl
  ·rw[gy,ih.2.1 (λe=>h1 (b8 _ e)) h2,a4 (λe=>h1 (by rw[e];exact cb))]
  ·rw[gy,ih.2.2 h1,i7,show os.length+1+(p-S.length)=os.length+(p-S.length)+1 by omega,ap]
def SC(P:Program)(g:FuncId)(args:List SV)(S0:List SO)(mv:List Nat)(Q:SV->List SO->Prop):Prop:=
 ∀(E:En) θ ρ h avs,E.h={ h with low:=h.next }->RS θ ρ ρ E E.h S0->c9 θ ρ args avs->
  dZ P (.func g) avs h (λv h'=>∃r S' θ' ρ' h1,Q r S'/\h'={ h1 with low:=gR h.low h1.low }/\RS θ' ρ ρ' E h1 S'/\VS θ' ρ' r v/\S0.length<=S'.length/\∀i,i<S0.length->i∉mv->(θ' i).id=(θ i).id)
end
end
end Go.Ev
