/- Lemmas of this claim, each with its conditions. -/
import Derived.Test.YtchdmmkclcnmnaaGreatA2
import Derived.Test.YtchdmmkclcnmnaaGreatProg
set_option linter.all false
open Option (bind_eq_some_iff)
open Nat (beq ble blt)
open Int (ofNat)
open List (mem_map)
open Option renaming bind_some -> ac, map_some -> aj
open Nat renaming beq_refl -> ad, lt_of_lt_of_le -> ay, le_of_ble_eq_true -> ba, mul_le_mul_right -> bc, le_trans -> be, zero_le -> bh, min_eq_left -> bi, lt_succ_self -> bw, zero_mul -> bx, le_refl -> b0, zero_add -> b6, lt_irrefl -> cb, le_succ_of_le -> cj, sub_zero -> cp, succ_mul -> dd
open Bool renaming and_self -> ap, and_eq_true -> a3, not_false -> a4, true_or -> ci, or_false -> c0, true_and -> dc
open And renaming intro -> ax
open List renaming map_cons -> a0, eraseIdx_cons_succ -> a6, getElem?_map -> a7, length_map -> a8, getElem?_set_self -> a9, getElem?_eq_none -> bb, getElem?_set_ne -> bd, getElem?_cons_succ -> bk, getElem?_cons_zero -> bo, map_append -> bt, map_nil -> bv, drop_drop -> bG, drop_zero -> bZ, drop_take -> b7, take_take -> b8, take_zero -> b9, take_of_length_le -> cc, length_drop -> cd, length_take -> ce, length_replicate -> cf, getElem?_append -> ch, all_cons -> cl, eraseIdx_nil -> cn, flatMap_cons -> co, nil_append -> ct, mapM_cons -> cv, replicate -> cR
open Go.Proofs.Tryz renaming prog -> a5
namespace Go.Ev
noncomputable section
def A6:AV->SV
 | .agg cs=>.ag (cs.map .a)
 | v=>.a v
def cP:SV->Option (List SV)
 | .any=>none
 | .ag cs=>some cs
 | .a (.agg cs)=>some (cs.map .a)
 | v=>some [v]
def ef:SV->Bool
 | .any=>false
 | .a v=>ke v
 | .ag _=>false
 | .bC _=>false
 | _=>true
def aM(o:Nat)(v:SV):SV:=cond (names o v) .any v
def di(o:Nat)(f:Fm):Fm:=f.map λp=>(p.1,aM o p.2)
def bO(o:Nat):SO->SO
 | .cells cs=>.cells (cs.map (aM o))
 | .map ks vs b=>.map ks (vs.map (aM o)) b
 | .iter m bs c pos=>.iter (aM o m) bs c pos
 | .pd ks vs bs c pos=>.pd ks vs bs c pos
 | .gone=>.gone
 | .loop c ls p f=>.loop c ls p (di o f)
 | .oT N=>.oT N
def eI(f:Fm):Operand->Option SV
 | .tmp i=>if i<1000000 then some (aO f i) else none
 | .const v=>(lO lR v).map A6
 | .func g=>some (.fn g [] [])
 | .global _=>none
def nw(f:Fm):List Operand->Option (List SV)
 | []=>some []
 | x::l=>(eI f x).bind λa=>(nw f l).map λb=>a::b
def kj(f:Fm):List (Nat×Operand)->Option (List (Nat×SV))
 | []=>some []
 | (i,x)::l=>(eI f x).bind λa=>(kj f l).map λb=>(i,a)::b
def uT(f:Fm):Option Operand->Option (Option AV)
 | none=>some none
 | some x=>match eI f x with
  | some (.a v)=>some (some v)
  | _=>none
def qJ{α:Type}(p:Prop)[Decidable p](x:Option α):Option α:=if p then x else none
def bQ(P:Program)(t:TypeId):Option (Nat×Bool):=(qV P t).bind λb=>(cF P t).map λn=>(n,b)
def aV(P:Program)(s:TypeId)(f:Nat):Option (Nat×TypeId×Nat):=match P.underlying s with
 | some (.struct fs)=>cond (fs.toList.all λf=>(cF P f.type).isSome) ((fs[f]?).bind λfd=>(cF P fd.type).map λn=>(fd.offset,fd.type,n)) none
 | _=>none
def Ri(P:Program)(t:TypeId):Option (Option Nat):=match P.underlying t with
 | some (.struct fs)=>cond (fs.toList.all λf=>(cF P f.type).isSome) (some none) none
 | some (.array _ e)=>(cF P e).map some
 | _=>none
def Jn(P:Program)(t:TypeId):Option (TypeId×Nat):=match P.underlying t with
 | some (.slice e)=>(cF P e).map λs=>(e,s)
 | _=>none
def SH(P:Program)(t:TypeId):Option (Nat×TypeId×Nat):=match P.underlying t with
 | some (.array n e)=>(cF P e).map λs=>(n,e,s)
 | _=>none
inductive TK where
 | str | sl | map | other
def iO(P:Program)(t:TypeId):TK:=match P.underlying t with
 | some .string=>.str
 | some (.slice _)=>.sl
 | some (.map _ _)=>.map
 | _=>.other
def sG(P:Program)(t:TypeId)(cs:List SV)(off:Nat):Option SV:=(bQ P t).bind λq=>match q.2 with
 | true=>qJ (off+q.1<=cs.length) (some (.ag ((cs.drop off).take q.1)))
 | false=>cs[off]?
def qN(place:Nat->Option (Nat×Nat))(cells:List SV):List (Nat×SV)->Option (List SV)
 | []=>some cells
 | (i,v)::rest=>match place i with
  | none=>none
  | some (off,size)=>(cP v).bind λcs=>
   qJ (cs.length=size/\off+size<=cells.length) (qN place (cells.take off++(cs++cells.drop (off+size))) rest)
def y5(P:Program)(t:TypeId)(parts:List (Nat×SV)):Option SV:=
 (dm P t).bind λz=>(Ri P t).bind λq=>match q with
  | none=>(qN (λi=>(aV P t i).map λq=>(q.1,q.2.2)) (z.cells.map .a) parts).map .ag
  | some s=>(qN (λi=>some (i*s,s)) (z.cells.map .a) parts).map .ag
def lA(P:Program)(t:TypeId)(len:Nat)(parts:List (Nat×SV)):Option (Nat×List SV):=
 (Jn P t).bind λq=>(dm P q.1).bind λz=>
  qJ (len*q.2<=16777216/\z.cells.length=q.2/\q.2≠0)
   ((qN (λi=>some (i*q.2,q.2)) ((rep z.cells len).map .a) parts).map λcs=>(q.2,cs))
mutual
def cE:SV->Option AV
 | .a v=>some v
 | .ag cs=>(ia cs).map .agg
 | .iface t v=>(cE v).map (.iface t)
 | _=>none
def ia:List SV->Option (List AV)
 | []=>some []
 | d::ds=>(cE d).bind λa=>(ia ds).map λb=>a::b
end
def JR:SV->Option Nat
 | .a v=>de v
 | _=>none
def qP(P:Program)(kt:TypeId)(k:AV):List AV->Nat->Option (Option Nat)
 | [],_=>some none
 | e::es,i=>match lM P 4 kt k e with
  | some true=>some (some i)
  | some false=>qP P kt k es (i+1)
  | none=>none
def sY(S:List SO):SV->Option (List AV×List SV)
 | .map o=>match S[o]? with
  | some (.map ks vs _)=>some (ks,vs)
  | _=>none
 | .im ks vs=>some (ks,vs)
 | .a (.map none)=>some ([],[])
 | _=>none
def ec(P:Program)(S:List SO)(t:TypeId)(x k:SV)(ok:Bool):Option SV:=
 (cW P t).bind λ(kt,et)=>(cE k).bind λk=>cond (um P kt k)
  ((sY S x).bind λ(ks,vs)=>(qP P kt k ks 0).bind λr=>
   let v:Option (SV×Bool):=match r with
    | some i=>(vs[i]?).map λe=>(e,true)
    | none=>(dm P et).map λz=>(A6 z,false)
   v.map λ(v,b)=>cond ok (.bC [v,.a (.bool b)]) v) none
def fD(P:Program)(S:List SO)(t:TypeId)(x k v:SV):Option (List SO):=
 (cW P t).bind λ(kt,_)=>(cE k).bind λk=>cond (um P kt k)
  (
   match x with
   | .map o=>match S[o]? with
    | some (.map ks vs b)=>(qP P kt k ks 0).bind λr=>match r with
     | some i=>(ks[i]?).bind λk0=>cond (stays k k0) (some (S.set o (.map (ks.set i k) (vs.set i v) b))) none
     | none=>some (S.set o (.map (ks++[k]) (vs++[v]) (b.map λp=>(p.1++[p.2],p.2+1))))
    | _=>none
   | _=>none) none
def MP(P:Program)(S:List SO)(t:TypeId)(x k:SV):Option (List SO):=
 (cW P t).bind λ(kt,_)=>(cE k).bind λk=>cond (um P kt k)
  (
   match x with
   | .map o=>match S[o]? with
    | some (.map ks vs b)=>(qP P kt k ks 0).map λr=>match r with
     | some i=>S.set o (.map (ks.eraseIdx i) (vs.eraseIdx i) (b.map λp=>(p.1.eraseIdx i,p.2)))
     | none=>S
    | _=>none
   | _=>none) none
def qw(P:Program)(S:List SO)(t:TypeId)(x:SV):Option Nat:=match iO P t,x with
 | .str,.a (.str s)=>some s.length
 | .sl,.sl n _ _=>some n
 | .sl,.buf _ n _ _=>some n
 | .sl,.a (.slice none n _ _)=>some n
 | .map,x=>(sY S x).map λe=>e.1.length
 | .sl,.sub _ _ n _ _=>some n
 | .sl,.e0 _=>some 0
 | _,_=>none
def ot(S:List SO)(s:Nat):SV->Option (Nat×List SV)
 | .sl n e cs=>qJ (e=s) (some (n,cs))
 | .buf o n e _=>match S[o]? with
  | some (.cells cs)=>qJ (e=s/\n*s<=cs.length) (some (n,cs.take (n*s)))
  | _=>none
 | .a (.slice none 0 0 (some 0))=>some (0,[])
 | .sub o off n e _=>match S[o]? with
  | some (.cells cs)=>qJ (e=s/\off+n*s<=cs.length) (some (n,(cs.drop off).take (n*s)))
  | _=>none
 | .e0 _=>some (0,[])
 | _=>none
def dx(o:Nat)(S:List SO):List SO:=S.map (bO o)
def gS(S:List SO)(so:SO):List SO:=dx S.length S++[bO S.length so]
def pP(P:Program)(e:TypeId):Bool:=match P.info? e with
 | some i=>ble i.bytes 10000
 | none=>false
def FY(S:List SO):SV->Option (SV×List SO×Option Nat)
 | .a (.slice none 0 0 (some 0))=>some (.a (.slice none 0 0 (some 0)),S,none)
 | .buf o n e c=>qJ (n<=1000000) (some (.buf o n e c,S,none))
 | .e0 e=>some (.e0 e,S,none)
 | _=>none
def BB(S:List SO)(s:Nat)(x:SV)(p:Nat×List SV):Option (SV×List SO×Option Nat):=match x with
 | .a (.slice none 0 0 (some 0))=>some (.buf S.length p.1 s none,gS S (.cells p.2),some S.length)
 | .buf o n es none=>match S[o]? with
  | some (.cells cs)=>qJ (es=s/\n<=1000000/\n*es<=cs.length)
   (some (.buf o (n+p.1) es none,(dx o S).set o (bO o (.cells (cs.take (n*es)++p.2))),some o))
  | _=>none
 | .e0 e=>qJ (e=s) (some (.buf S.length p.1 s none,gS S (.cells p.2),some S.length))
 | .buf o n es (some c)=>match S[o]? with
  | some (.cells cs)=>qJ (es=s/\n<=1000000/\n*es<=cs.length/\c<n+p.1)
   (some (.buf S.length (n+p.1) es none,gS S (.cells (cs.take (n*es)++p.2)),some S.length))
  | _=>none
 | _=>none
def isInt(P:Program)(t:TypeId):Bool:=match P.underlying t with
 | some (.int _)=>true
 | _=>false
def uy(P:Program)(S:List SO)(xt:TypeId)(s:Nat)(z:AV)(y:SV):Option (Nat×List SV):=match iO P xt with
 | .sl=>ot S s y
 | .other=>cond (isInt P xt) ((JR y).bind λn=>qJ (n<=1000000) (some (n,(rep z.cells n).map .a))) none
 | _=>none
def tJ(P:Program)(S:List SO)(st xt:TypeId)(x y:SV):Option (SV×List SO×Option Nat):=
 (Jn P st).bind λq=>(dm P q.1).bind λz=>qJ (z.cells.length=q.2/\q.2≠0/\pP P q.1=true)
  ((uy P S xt q.2 z y).bind λp=>if p.1=0 then FY S x else qJ (p.1<=1000000/\p.2.all ef=true) (BB S q.2 x p))
def x7(isMax:Bool):SV->List SV->Option SV
 | x,[]=>some x
 | .a x,.a y::l=>(tg isMax x y).bind λz=>x7 isMax (.a z) l
 | _,_=>none
def SJ:SV->Option (Nat×Nat×Nat×Nat)
 | .buf o n e _=>some (o,0,n,e)
 | .sub o off n e _=>some (o,off,n,e)
 | _=>none
def Lu(S:List SO)(s o off des:Nat)(rows:List SV)(n:Nat):Option (SV×List SO×Option Nat):=
 if n=0 then some (.a (.int .i64 0),S,none) else match S[o]? with
  | some (.cells cs)=>qJ (des=s/\off+n*s<=cs.length/\n*s<=rows.length/\(rows.take (n*s)).all ef=true)
   (some (.a (.int .i64 (n:Nat)),S.set o (.cells (cs.take off++(rows.take (n*s)++cs.drop (off+n*s)))),none))
  | _=>none
def Gs(P:Program)(S:List SO)(t:TypeId)(x y:SV):Option (SV×List SO×Option Nat):=(Jn P t).bind λq=>(SJ x).bind λ(o,off,dl,des)=>(ot S q.2 y).bind λp=>
 Lu S q.2 o off des p.2 (Nat.min p.1 dl)
def ze(P:Program)(S:List SO)(t:TypeId)(x:SV):Option (SV×List SO×Option Nat):=(Jn P t).bind λq=>(dm P q.1).bind λz=>(SJ x).bind λ(o,off,n,es)=>
 if n=0 then some (.a jG,S,none) else match S[o]? with
  | some (.cells cs)=>qJ (es=q.2/\z.cells.length=q.2/\off+n*q.2<=cs.length/\(rep z.cells n).all ke=true)
   (some (.a jG,S.set o (.cells (cs.take off++((rep z.cells n).map .a++cs.drop (off+n*q.2)))),none))
  | _=>none
def y8:SV->Option Nat
 | .a (.slice none 0 0 (some 0))=>some 0
 | .buf _ _ _ (some c)=>some c
 | .sub _ _ _ _ (some c)=>some c
 | .e0 _=>some 0
 | _=>none
def dK(P:Program)(S:List SO)(b:Builtin)(ats:List TypeId)(xs:List SV):Option (SV×List SO×Option Nat):=match b,ats,xs with
 | .append,st::xt::_,[x,y]=>tJ P S st xt x y
 | .len,t::_,x::_=>(qw P S t x).map λ(n:Nat)=>((SV.a (.int .i64 (n:Int)),S,none):SV×List SO×Option Nat)
 | .min,_,x::l=>(x7 false x l).map λv=>(v,S,none)
 | .max,_,x::l=>(x7 true x l).map λv=>(v,S,none)
 | .delete,t::_,x::k::_=>(MP P S t x k).map λS=>(.a jG,S,none)
 | .copy,dt::_,[x,y]=>Gs P S dt x y
 | .clear,t::_,[x]=>ze P S t x
 | .cap,t::_,[x]=>(Jn P t).bind λ_=>(y8 x).map λ(c:Nat)=>((SV.a (.int .i64 (c:Int)),S,none):SV×List SO×Option Nat)
 | _,_,_=>none
def Hx:Option SV->Option SV->Option SV->Option SV
 | some (.a (.bool z)),some x,some y=>some (cond z x y)
 | _,_,_=>none
def uo(P:Program)(S:List SO)(tt:TypeId):SV->Option SV
 | .ptr o off=>match S[o]? with
  | some (.cells cs)=>sG P tt cs off
  | _=>none
 | .ip cs=>sG P tt cs 0
 | _=>none
def A2(P:Program)(S:List SO)(tt:TypeId)(a x:SV):Option (List SO):=match a with
 | .ptr o off=>match S[o]? with
  | some (.cells cs)=>(bQ P tt).bind λq=>(cP x).bind λvs=>
   qJ (vs.length=q.1/\off+q.1<=cs.length/\vs.all ef=true) (some (S.set o (.cells (cs.take off++(vs++cs.drop (off+q.1))))))
  | _=>none
 | _=>none
def cI(P:Program):SV->Option SV
 | .ptr o off=>some (.ptr o off)
 | .ip cs=>some (.ip cs)
 | .fn g a b=>some (.fn g a b)
 | .sl n e cs=>some (.sl n e cs)
 | .buf o n e c=>some (.buf o n e c)
 | .sub o off n e c=>some (.sub o off n e c)
 | .e0 e=>some (.e0 e)
 | .a (.fn (.method nm) [.iface t v] ys)=>(jq P t nm).map λ_=>.a (.fn (.method nm) [.iface t v] ys)
 | _=>none
def mT(P:Program)(s:TypeId)(x:SV)(f:Nat):Option SV:=(aV P s f).bind λq=>qJ (q.2.2≠0) (match x with
 | .ptr o off=>some (.ptr o (off+q.1))
 | .ip cs=>qJ (q.1<=cs.length) (some (.ip (cs.drop q.1)))
 | _=>none)
def vP(P:Program)(s:TypeId)(x:SV)(f:Nat):Option SV:=match x with
 | .ag cs=>(aV P s f).bind λq=>sG P q.2.1 cs q.1
 | _=>none
def mZ(P:Program)(t:TypeId)(x:SV)(i:SV):Option SV:=(JR i).bind λi=>match SH P t with
 | some q=>qJ (i<q.1) (match x with
  | .ptr o off=>some (.ptr o (off+i*q.2.2))
  | .ip cs=>qJ (i*q.2.2<=cs.length) (some (.ip (cs.drop (i*q.2.2))))
  | _=>none)
 | none=>(Jn P t).bind λq=>match x with
  | .sl n es cs=>qJ (i<n/\q.2=es) (some (.ip ((cs.drop (i*q.2)).take q.2)))
  | .buf o n es _=>qJ (i<n/\q.2=es) (some (.ptr o (i*q.2)))
  | .sub o off n es _=>qJ (i<n/\q.2=es) (some (.ptr o (off+i*q.2)))
  | _=>none
def Ae(P:Program)(t:TypeId)(x:SV)(i:SV):Option SV:=(JR i).bind λi=>match x with
 | .ag cs=>(SH P t).bind λq=>qJ (i<q.1) (sG P q.2.1 cs (i*q.2.2))
 | .a (.str s)=>match iO P t with
  | .str=>(s[i]?).map λb=>.a (.int .u8 (ofNat b))
  | _=>none
 | _=>none
def gw(P:Program)(t:TypeId)(x:SV)(lo hi mx:Option AV):Option SV:=match iO P t,x with
 | .str,.a (.str s)=>match mx with
  | some _=>none
  | none=>(cV s.length (some s.length) lo hi none).map λ(l,hh,_)=>.a (.str ((s.drop l).take (hh-l)))
 | .sl,.sl n es cs=>match mx with
  | some m=>(Jn P t).bind λq=>qJ (lo=none/\hi.bind de=some 0/\de m=some 0/\q.2=es) (some (.e0 q.2))
  | none=>(Jn P t).bind λq=>(cV n none lo hi none).bind λ(l,hh,_)=>qJ (q.2=es) (some (.sl (hh-l) q.2 ((cs.drop (l*q.2)).take ((hh-l)*q.2))))
 | .sl,.buf o n es c=>match mx with
  | some _=>none
  | none=>(Jn P t).bind λq=>(cV n c lo hi none).bind λ(l,hh,m)=>qJ (q.2=es) (some (match lo with
   | none=>.buf o (hh-l) q.2 (aN m l)
   | some _=>.sub o (l*q.2) (hh-l) q.2 (aN m l)))
 | .sl,.sub o off n es c=>match mx with
  | some _=>none
  | none=>(Jn P t).bind λq=>(cV n c lo hi none).bind λ(l,hh,m)=>qJ (q.2=es) (some (.sub o (off+l*q.2) (hh-l) q.2 (aN m l)))
 | .sl,.a (.slice none 0 0 (some 0))=>(Jn P t).bind λ_=>(cV 0 (some 0) lo hi mx).map λ_=>.a (.slice none 0 0 (some 0))
 | .sl,.e0 e=>(Jn P t).bind λq=>(cV 0 (some 0) lo hi mx).bind λ(l,hh,m)=>qJ (l=0/\hh=0/\m=some 0/\q.2=e) (some (.e0 e))
 | _,_=>none
def LF(P:Program)(t:TypeId):Bool:=match P.underlying t with
 | some (.interface _)=>false
 | some _=>true
 | none=>false
def cT(P:Program)(f:Fm)(S:List SO)(op:Op):Option (SV×List SO×Option Nat):=match op with
 | .move x=>(eI f x).map λv=>(v,S,none)
 | .assign x=>(eI f x).map λv=>(v,S,none)
 | .pick c a b=>(Hx (eI f c) (eI f a) (eI f b)).map λv=>(v,S,none)
 | .alloc e=>(dm P e).map λz=>(.ptr S.length 0,gS S (.cells (z.cells.map .a)),some S.length)
 | .box _ x=>(eI f x).bind λv=>(cP v).map λcs=>(.ptr S.length 0,gS S (.cells cs),some S.length)
 | .build tt ps=>(kj f ps.toList).bind λl=>(y5 P tt l).map λv=>(v,S,none)
 | .buildSlice tt n ps=>(kj f ps.toList).bind λl=>(lA P tt n l).map λq=>(.buf S.length n q.1 (some n),gS S (.cells q.2),some S.length)
 | .makeMap _ none=>some (.map S.length,gS S (.map [] [] none),some S.length)
 | .makeSlice tt l c=>match eI f l,eI f c with
  | some (.a l),some (.a c)=>(ij P tt l c).map λq=>(.buf S.length q.1 q.2.1 (some q.2.2.1),gS S (.cells (q.2.2.2.map .a)),some S.length)
  | _,_=>none
 | .load tt a=>(eI f a).bind λa=>(uo P S tt a).map λv=>(v,S,none)
 | .store tt a x=>(eI f a).bind λa=>(eI f x).bind λx=>(A2 P S tt a x).map λS=>(.a jG,S,none)
 | .nilCheck x=>(eI f x).bind λx=>(cI P x).map λv=>(v,S,none)
 | .binOp op t x y _=>(eI f x).bind λx=>(eI f y).bind λy=>(cE x).bind λx=>(cE y).bind λy=>(cS P op t x y).map λv=>(.a v,S,none)
 | .unOp op _ x=>(eI f x).bind λx=>(cE x).bind λx=>(Ua op x).map λv=>(.a v,S,none)
 | .convert s d x=>(eI f x).bind λx=>(cE x).bind λx=>(mR P s d x).map λv=>(.a v,S,none)
 | .makeInterface t x=>cond (LF P t) ((eI f x).map λv=>(.iface t v,S,none)) none
 | .makeFunc (.func g) first cap=>(nw f first.toList).bind λa=>(nw f cap.toList).map λb=>(.fn g a b,S,none)
 | .slice tt x lo hi mx=>(eI f x).bind λx=>(uT f lo).bind λlo=>(uT f hi).bind λhi=>(uT f mx).bind λmx=>(gw P tt x lo hi mx).map λv=>(v,S,none)
 | .fieldAddr s x fl=>(eI f x).bind λx=>(mT P s x fl).map λv=>(v,S,none)
 | .field s x fl=>(eI f x).bind λx=>(vP P s x fl).map λv=>(v,S,none)
 | .indexAddr t x i=>(eI f x).bind λx=>(eI f i).bind λi=>(mZ P t x i).map λv=>(v,S,none)
 | .index t x i=>(eI f x).bind λx=>(eI f i).bind λi=>(Ae P t x i).map λv=>(v,S,none)
 | .lookup t x k ok=>(eI f x).bind λx=>(eI f k).bind λk=>(ec P S t x k ok).map λv=>(v,S,none)
 | .mapUpdate t m k x=>(eI f m).bind λm=>(eI f k).bind λk=>(eI f x).bind λx=>(fD P S t m k x).map λS=>(.a jG,S,none)
 | .insert t m k x=>(eI f m).bind λm=>(eI f k).bind λk=>(eI f x).bind λx=>(fD P S t m k x).map λS=>(.a jG,S,none)
 | .extract x i=>match eI f x with
  | some (.bC vs)=>(vs[i]?).map λv=>(v,S,none)
  | _=>none
 | .call { callee:=.builtin b,args:=aS,argTypes:=ats }=>(nw f aS.toList).bind λxs=>dK P S b ats.toList xs
 | .makeFunc (.method nm) first cap=>(nw f first.toList).bind λa=>(ia a).bind λa=>(nw f cap.toList).bind λb=>(ia b).map λb=>(.a (.fn (.method nm) a b),S,none)
 | _=>none
def jY(k:Option Nat)(v:SV):SV:=match k with
 | none=>v
 | some o=>aM o v
def jw(f:Fm)(kill:Option Nat):Fm:=match kill with
 | none=>f
 | some o=>di o f
def sn(f:Fm)(kill:Option Nat)(dst:Option Tmp)(v:SV):Fm:=match dst with
 | none=>jw f kill
 | some d=>(d,v)::jw f kill
section
variable {θ:Nat->Loc} {ρ:kq} {P:Program}
theorem cZ.a:∀(aS:List AV),cZ θ ρ (aS.map .a) aS
 | []=>by rw[bv,aT]
 | a::aS=>by rw[a0,aJ];exact⟨a,aS,rfl,by rw[VS],cZ.a aS⟩
def A7(v:AV):VS θ ρ (A6 v) v:=by
 unfold A6;split
 ·rw[VS];exact⟨_,rfl,cZ.a _⟩
 ·rw[VS]
def bE{f:Fm}{af:Nat->AV}{n:Nat}{wv:Nat->AV}(hF:FR θ ρ (aO f) af n wv){x:Operand}{v:SV}(h:eI f x=some v):∃a,ev (dg af n) x=some a/\VS θ ρ v a:=by
 cases x with
 | tmp i=>
  simp only[eI] at h
  have hlim:i<1000000:=by
   apply Decidable.byContradiction;intro hn;rw[ul hn] at h;cases h
  rw[t8 hlim] at h;cases h;have:=hF.v i;by_cases hi:i<n
  ·rw[t8 hi] at this;exact⟨_,TC hi,this⟩
  ·rw[ul hi,hF.u i hlim] at this
   exact⟨jG,by
    have:(dg af n).get i=none:=Ba af n i (Nat.le_of_not_lt hi)
    simp only[ev,this],this⟩
 | const c=>
  simp only[eI] at h;obtain⟨a,ha,rfl⟩:=ar h;exact⟨a,ha,A7 a⟩
 | func g=>
  simp only[eI,Option.some.injEq] at h;subst h;exact⟨_,Rv,by rw[VS];exact⟨[],[],rfl,by rw[aT],by rw[aT]⟩⟩
 | global g=>simp[eI] at h
def lu{f:Fm}{af:Nat->AV}{n:Nat}{wv:Nat->AV}(hF:FR θ ρ (aO f) af n wv):∀{l:List Operand} {vs:List SV},nw f l=some vs->∃aS,x3 (dg af n) l=some aS/\cZ θ ρ vs aS
 | [],vs,h=>by
  simp only[nw,Option.some.injEq] at h;subst h;exact⟨[],rfl,by rw[aT]⟩
 | x::l,vs,h=>by
  rw[nw] at h;obtain⟨v,hv,h⟩:=bind_eq_some_iff.1 h;obtain⟨ws,hw,rfl⟩:=ar h;obtain⟨a,ha,ka⟩:=bE hF hv;obtain⟨aS,hs,ks⟩:=lu hF hw;exact⟨a::aS,by rw[O9,ha,hs];rfl,by rw[aJ];exact⟨a,aS,rfl,ka,ks⟩⟩
def Uy(θ:Nat->Loc)(ρ:kq):List (Nat×SV)->List (Nat×AV)->Prop
 | [],aS=>aS=[]
 | (i,v)::l,aS=>∃a r,aS=(i,a)::r/\VS θ ρ v a/\Uy θ ρ l r
def wG{f:Fm}{af:Nat->AV}{n:Nat}{wv:Nat->AV}(hF:FR θ ρ (aO f) af n wv):∀{l:List (Nat×Operand)} {vs:List (Nat×SV)},kj f l=some vs->∃aS,lW (dg af n) l=some aS/\Uy θ ρ vs aS
 | [],vs,h=>by
  simp only[kj,Option.some.injEq] at h;subst h;exact⟨[],rfl,rfl⟩
 | (i,x)::l,vs,h=>by
  rw[kj] at h;obtain⟨v,hv,h⟩:=bind_eq_some_iff.1 h;obtain⟨ws,hw,rfl⟩:=ar h;obtain⟨a,ha,ka⟩:=bE hF hv;obtain⟨aS,hs,ks⟩:=wG hF hw;exact⟨(i,a)::aS,by rw[Hv,ha,hs];rfl,a,aS,rfl,ka,ks⟩
def EV{f:Fm}{af:Nat->AV}{n:Nat}{wv:Nat->AV}(hF:FR θ ρ (aO f) af n wv){o:Option Operand}{v:Option AV}(h:uT f o=some v):O8 (dg af n) o=some v:=by
 cases o with
 | none=>simp only[uT,Option.some.injEq] at h;subst h;rfl
 | some x=>
  simp only[uT] at h;split at h
  ·rename_i w hw;cases h;obtain⟨a,ha,ka⟩:=bE hF hw;rw[VS] at ka;subst ka;simp only[O8,ha,aj]
  ·cases h
def cells_one{v:AV}(h:∀cs,v≠.agg cs):v.cells=[v]:=by
 cases v<;>first | rfl | exact t7 rfl (h _)
def vF{v:SV}{x:AV}(hv:VS θ ρ v x){cs:List SV}(h:cP v=some cs):cZ θ ρ cs x.cells:=by
 have one:∀{w:SV},VS θ ρ w x->(∀cs,x≠.agg cs)->cZ θ ρ [w] x.cells:=by
  intro w hw hx;rw[cells_one hx,aJ];exact⟨x,[],rfl,hw,by rw[aT]⟩
 cases v with
 | any=>simp[cP] at h
 | a v=>
  have hv':=hv;rw[VS] at hv;subst hv
  cases x with
  | agg cs'=>simp only[cP,Option.some.injEq] at h;subst h;exact cZ.a _
  | _=>simp only[cP,Option.some.injEq] at h;subst h;exact one hv' (λ_ h=>by cases h)
 | ag cs'=>
  simp only[cP,Option.some.injEq] at h;subst h;rw[VS] at hv;obtain⟨aS,rfl,h2⟩:=hv;exact h2
 | sl n e cs'=>
  simp only[cP,Option.some.injEq] at h;subst h;refine one hv ?_;rw[VS,GS] at hv
  rcases hv with⟨_,_,o,e',c,rfl,_,_⟩ | ⟨id,off,cap,row,rfl,_⟩<;>exact λ_ h=>by cases h
 | im ks vs=>
  simp only[cP,Option.some.injEq] at h;subst h;refine one hv ?_;rw[VS,GS] at hv;obtain⟨id,l,c,rfl,_⟩:=hv
  exact λ_ h=>by cases h
 | ip cs'=>
  simp only[cP,Option.some.injEq] at h;subst h;refine one hv ?_;rw[VS,GS] at hv;obtain⟨id,off,row,r,rfl,_⟩:=hv
  exact λ_ h=>by cases h
 | ptr o off=>
  simp only[cP,Option.some.injEq] at h;subst h;refine one hv ?_
  rw[VS] at hv;subst hv;exact λ_ h=>by cases h
 | map o=>
  simp only[cP,Option.some.injEq] at h;subst h;refine one hv ?_
  rw[VS] at hv;subst hv;exact λ_ h=>by cases h
 | buf o n e c=>
  simp only[cP,Option.some.injEq] at h;subst h;refine one hv ?_
  rw[VS] at hv;subst hv;exact λ_ h=>by cases h
 | sub o off n e c=>
  simp only[cP,Option.some.injEq] at h;subst h;refine one hv ?_
  rw[VS] at hv;subst hv;exact λ_ h=>by cases h
 | e0 e=>
  simp only[cP,Option.some.injEq] at h;subst h;refine one hv ?_
  rw[VS] at hv;obtain⟨o,e',rfl,_⟩:=hv;exact λ_ h=>by cases h
 | bC vs=>
  simp only[cP,Option.some.injEq] at h;subst h;refine one hv ?_
  rw[VS] at hv;obtain⟨aS,rfl,_⟩:=hv;exact λ_ h=>by cases h
 | fn g a b=>
  simp only[cP,Option.some.injEq] at h;subst h;refine one hv ?_
  rw[VS] at hv;obtain⟨aS,bs,rfl,_⟩:=hv;exact λ_ h=>by cases h
 | iface t v=>
  simp only[cP,Option.some.injEq] at h;subst h;refine one hv ?_
  rw[VS] at hv;obtain⟨y,rfl,_⟩:=hv;exact λ_ h=>by cases h
def RZ{v:SV}{x:AV}(hv:VS θ ρ v x)(h:ef v=true):ke x=true:=by
 cases v with
 | any=>simp[ef] at h
 | a v=>rw[VS] at hv;subst hv;exact h
 | ag cs=>simp[ef] at h
 | bC cs=>simp[ef] at h
 | sl n e cs=>rw[VS,GS] at hv;rcases hv with⟨_,_,o,e',c,rfl,_,_⟩ | ⟨id,off,cap,row,rfl,_⟩<;>rfl
 | im ks vs=>rw[VS,GS] at hv;obtain⟨id,l,c,rfl,_⟩:=hv;rfl
 | ip cs=>rw[VS,GS] at hv;obtain⟨id,off,row,r,rfl,_⟩:=hv;rfl
 | ptr o off=>rw[VS] at hv;subst hv;rfl
 | map o=>rw[VS] at hv;subst hv;rfl
 | buf o n e c=>rw[VS] at hv;subst hv;rfl
 | sub o off n e c=>rw[VS] at hv;subst hv;rfl
 | e0 e=>rw[VS] at hv;obtain⟨o,e',rfl,_⟩:=hv;rfl
 | fn g a b=>rw[VS] at hv;obtain⟨aS,bs,rfl,_⟩:=hv;rfl
 | iface t v=>rw[VS] at hv;obtain⟨y,rfl,_⟩:=hv;rfl
def mE:∀{vs:List SV} {xs:List AV},cZ θ ρ vs xs->vs.all ef=true->xs.all ke=true
 | [],xs,hv,_=>by rw[aT] at hv;subst hv;rfl
 | d::ds,xs,hv,h=>by
  rw[aJ] at hv;obtain⟨a,r,rfl,h1,h2⟩:=hv;rw[cl,a3] at h ⊢;exact⟨RZ h1 h.1,mE h2 h.2⟩
def cu{α:Type}{p:Prop}[Decidable p]{x:Option α}{y:α}(h:qJ p x=some y):p/\x=some y:=by
 unfold qJ at h;split at h
 ·rename_i hp;exact⟨hp,h⟩
 ·cases h
def vk{t:TypeId}{q:Nat×Bool}(h:bQ P t=some q):qV P t=some q.2/\cF P t=some q.1:=by
 unfold bQ at h;obtain⟨b,hb,h⟩:=bind_eq_some_iff.1 h;obtain⟨n,hn,rfl⟩:=ar h;exact⟨hb,hn⟩
def vR{s:TypeId}{f:Nat}{q:Nat×TypeId×Nat}(h:aV P s f=some q):∃fs fd,P.underlying s=some (.struct fs)/\fs.toList.all (λf=>(cF P f.type).isSome)=true/\fs[f]?=some fd/\cF P fd.type=some q.2.2/\fd.offset=q.1/\fd.type=q.2.1:=by
 unfold aV at h;split at h
 ·rename_i fs hu;obtain⟨hb,h⟩:=aK h;obtain⟨fd,hfd,h⟩:=bind_eq_some_iff.1 h;obtain⟨n,hn,rfl⟩:=ar h;exact⟨fs,fd,hu,hb,hfd,hn,rfl,rfl⟩
 ·cases h
def gD{t:TypeId}{q:TypeId×Nat}(h:Jn P t=some q):P.underlying t=some (.slice q.1)/\cF P q.1=some q.2:=by
 unfold Jn at h;split at h
 ·rename_i e hu;obtain⟨n,hn,rfl⟩:=ar h;exact⟨hu,hn⟩
 ·cases h
def F2{t:TypeId}{q:Nat×TypeId×Nat}(h:SH P t=some q):P.underlying t=some (.array q.1 q.2.1)/\cF P q.2.1=some q.2.2:=by
 unfold SH at h;split at h
 ·rename_i n e hu;obtain⟨s,hs,rfl⟩:=ar h;exact⟨hu,hs⟩
 ·cases h
def An{t:TypeId}(h:iO P t=.str):P.underlying t=some .string:=by
 unfold iO at h
 split at h<;>first | assumption | cases h
def pY{t:TypeId}(h:iO P t=.sl):∃e,P.underlying t=some (.slice e):=by
 unfold iO at h
 split at h<;>first | exact⟨_,by assumption⟩ | cases h
def Pu{t:TypeId}(h:iO P t=.map):∃k e,P.underlying t=some (.map k e):=by
 unfold iO at h
 split at h<;>first | exact⟨_,_,by assumption⟩ | cases h
def uE{t:TypeId}{cs:List SV}{aS:List AV}(hv:cZ θ ρ cs aS){off:Nat}{v:SV}(h:sG P t cs off=some v):∃a,fh P t aS off=some a/\VS θ ρ v a:=by
 unfold sG at h;obtain⟨q,hq,h⟩:=bind_eq_some_iff.1 h;obtain⟨h1,h2⟩:=vk hq;obtain⟨n,b⟩:=q;unfold fh;simp only at h1 h2 h;rw[h1];cases b
 ·exact hv.get h
 ·simp only at h ⊢;obtain⟨hle,h⟩:=cu h;cases h;rw[h2,ac,hv.length,eZ hle,ae];exact⟨_,rfl,by rw[VS];exact⟨_,rfl,(hv.drop off).take n⟩⟩
def CU{h:H}{id:Nat}{aS:List AV}(hr:sy h.aU id=some aS)(t:TypeId)(off:Nat):h.load P t id off=fh P t aS off:=by
 unfold H.load fh H.chunk;unfold sy at hr
 cases ho:h.aU.get id with
 | none=>rw[ho] at hr;cases hr
 | some ob=>
  rw[ho] at hr
  cases ob with
  | cells cs bY=>
   have hr:some cs=some aS:=hr;cases hr
   cases qV P t with
   | none=>rfl
   | some b=>
    cases b
    ·rfl
    ·simp only
     cases cF P t with
     | none=>rfl
     | some n=>simp only[ac];cases ble (off+n) aS.length<;>rfl
  | ro cs=>
   have hr:some cs=some aS:=hr;cases hr
   cases qV P t with
   | none=>rfl
   | some b=>
    cases b
    ·rfl
    ·simp only
     cases cF P t with
     | none=>rfl
     | some n=>simp only[ac];cases ble (off+n) aS.length<;>rfl
  | _=>cases hr
def NC{t:TypeId}{row:List AV}{off r k:Nat}(hl:off+r<=row.length){v:AV}(h:fh P t ((row.drop off).take r) k=some v):fh P t row (off+k)=some v:=by
 unfold fh at h ⊢;split at h
 ·obtain⟨n,hn,h⟩:=bind_eq_some_iff.1 h;obtain⟨hb,h⟩:=aK h;cases h;have hb:=ba hb;rw[ce,cd] at hb;rw[hn,ac,eZ (show off+k+n<=row.length by omega),ae,b7,b8,bG,bi (by omega)]
 ·rw[List.getElem?_take] at h;split at h
  ·rw[List.getElem?_drop] at h;exact h
  ·cases h
 ·cases h
def ua{place:Nat->Option (Nat×Nat)}:∀{parts:List (Nat×SV)} {ps:List (Nat×AV)} {cells:List SV} {aS:List AV} {out:List SV},Uy θ ρ parts ps->cZ θ ρ cells aS->qN place cells parts=some out->∃o,kG place aS ps=some o/\cZ θ ρ out o
 | [],ps,cells,aS,out,hp,hc,h=>by
  have hp:ps=[]:=hp;subst hp;simp only[qN,Option.some.injEq] at h;subst h;exact⟨aS,rfl,hc⟩
 | (i,v)::l,ps,cells,aS,out,hp,hc,h=>by
  obtain⟨a,r,rfl,h1,h2⟩:=hp;simp only[qN] at h;simp only[kG];split at h
  ·cases h
  ·rename_i off size hpl;rw[hpl];simp only;obtain⟨cs,hcs,h⟩:=bind_eq_some_iff.1 h;obtain⟨⟨hb1,hb2⟩,h⟩:=cu h;have k:=vF h1 hcs;subst hb1;rw[k.length,hc.length,ad,eZ hb2,ap,ae];exact ua h2 ((hc.take off).app (k.app (hc.drop _))) h
def wZ{p q:Nat->Option (Nat×Nat)}(hpq:∀i,(p i).isSome=true->q i=p i):∀{ps:List (Nat×AV)} {aS o:List AV},kG p aS ps=some o->kG q aS ps=some o
 | [],aS,o,h=>h
 | (i,v)::l,aS,o,h=>by
  simp only[kG] at h ⊢
  cases hp:p i with
  | none=>rw[hp] at h;cases h
  | some x=>
   obtain⟨off,size⟩:=x;rw[hpq i (by rw[hp];rfl),hp];rw[hp] at h;simp only at h ⊢;obtain⟨hb,h⟩:=aK h;rw[hb,ae];exact wZ hpq h
def MH{t:TypeId}{parts:List (Nat×SV)}{ps:List (Nat×AV)}(hp:Uy θ ρ parts ps){v:SV}(h:y5 P t parts=some v):∃a,vE P t ps=some a/\VS θ ρ v a:=by
 unfold y5 at h;unfold vE;obtain⟨z,hz,h⟩:=bind_eq_some_iff.1 h;obtain⟨q,hq,h⟩:=bind_eq_some_iff.1 h;rw[hz,ac];unfold Ri at hq;split at hq
 ·rename_i fs hu;obtain⟨hb,hq⟩:=aK hq;cases hq;simp only at h;obtain⟨o,ho,rfl⟩:=ar h;obtain⟨w,hw,kw⟩:=ua hp (cZ.a z.cells) ho
  have hw:=wZ (q:=wz P fs) (λi hi=>by
   cases hf:aV P t i with
   | none=>rw[hf] at hi;cases hi
   | some q=>
    obtain⟨fs',fd,e1,_,e3,e4,e5,_⟩:=vR hf;rw[hu] at e1;cases e1;unfold wz
    rw[e3,ac,e4,aj,e5];rfl) hw
  rw[hu];simp only;rw[hb,ae,hw];exact⟨_,rfl,by rw[VS];exact⟨_,rfl,kw⟩⟩
 ·rename_i n e hu;obtain⟨s,hs,rfl⟩:=ar hq;simp only at h;obtain⟨o,ho,rfl⟩:=ar h;obtain⟨w,hw,kw⟩:=ua hp (cZ.a z.cells) ho;rw[hu];simp only;rw[hs,ac,hw];exact⟨_,rfl,by rw[VS];exact⟨_,rfl,kw⟩⟩
 ·cases hq
def y6{t:TypeId}{len:Nat}{parts:List (Nat×SV)}{ps:List (Nat×AV)}(hp:Uy θ ρ parts ps){q:Nat×List SV}(h:lA P t len parts=some q):∃cs,gX P t len ps=some (q.1,cs)/\cZ θ ρ q.2 cs:=by
 unfold lA at h;unfold gX;obtain⟨el,hel,h⟩:=bind_eq_some_iff.1 h;obtain⟨z,hz,h⟩:=bind_eq_some_iff.1 h;obtain⟨⟨b1,b2,b3⟩,h⟩:=cu h;obtain⟨o,ho,rfl⟩:=ar h;obtain⟨hu,hs⟩:=gD hel;obtain⟨w,hw,kw⟩:=ua hp (cZ.a (rep z.cells len)) ho
 have hb0:beq el.2 0=false:=by
  cases hb:beq el.2 0
  ·rfl
  ·exact t7 (cU hb) b3
 rw[hu];simp only;rw[hs,ac,hz,ac,eZ b1,b2,ad,hb0];simp only[a4,ap,ae];rw[hw];exact⟨w,rfl,kw⟩
mutual
def ib:∀{v:SV} {x a:AV},VS θ ρ v x->cE v=some a->x=a
 | .a v,x,a,hv,h=>by rw[VS] at hv;rw[cE] at h;cases h;exact hv
 | .ag cs,x,a,hv,h=>by
  rw[VS] at hv;rw[cE] at h;obtain⟨aS,rfl,h2⟩:=hv;obtain⟨bs,hb,rfl⟩:=ar h;rw[o5 h2 hb]
 | .any,_,_,_,h=>by simp[cE] at h
 | .sl _ _ _,_,_,_,h=>by simp[cE] at h
 | .im _ _,_,_,_,h=>by simp[cE] at h
 | .ip _,_,_,_,h=>by simp[cE] at h
 | .ptr _ _,_,_,_,h=>by simp[cE] at h
 | .map _,_,_,_,h=>by simp[cE] at h
 | .buf _ _ _ _,_,_,_,h=>by simp[cE] at h
 | .sub _ _ _ _ _,_,_,_,h=>by simp[cE] at h
 | .e0 _,_,_,_,h=>by simp[cE] at h
 | .bC _,_,_,_,h=>by simp[cE] at h
 | .fn _ _ _,_,_,_,h=>by simp[cE] at h
 | .iface t v,x,a,hv,h=>by
  rw[VS] at hv;rw[cE] at h;obtain⟨y,rfl,h2⟩:=hv;obtain⟨b,hb,rfl⟩:=ar h;rw[ib h2 hb]
def o5:∀{vs:List SV} {xs aS:List AV},cZ θ ρ vs xs->ia vs=some aS->xs=aS
 | [],xs,aS,hv,h=>by rw[aT] at hv;rw[ia] at h;cases h;exact hv
 | d::ds,xs,aS,hv,h=>by
  rw[aJ] at hv;rw[ia] at h;obtain⟨a,r,rfl,h1,h2⟩:=hv;obtain⟨b,hb,h⟩:=bind_eq_some_iff.1 h;obtain⟨bs,hbs,rfl⟩:=ar h;rw[ib h1 hb,o5 h2 hbs]
end
def oY{kt:TypeId}{k:AV}:∀(l:List (AV×AV×Nat)) (i:Nat),hY P kt k l i=qP P kt k (l.map (·.1)) i
 | [],_=>rfl
 | e::l,i=>by
  rw[a0];unfold hY qP
  cases lM P 4 kt k e.1 with
  | none=>rfl
  | some b=>
   cases b
   ·exact oY l (i+1)
   ·rfl
def Et{b:Bool}:∀{l:List SV} {x:SV} {xa:AV} {aS:List AV} {v:SV},VS θ ρ x xa->cZ θ ρ l aS->x7 b x l=some v->∃a,nY b xa aS=some a/\VS θ ρ v a
 | [],x,xa,aS,v,hx,hl,h=>by
  rw[aT] at hl;subst hl
  have:v=x:=by
   cases x<;>simp only[x7,Option.some.injEq] at h<;>exact h.symm
  subst this;exact⟨xa,rfl,hx⟩
 | y::l,x,xa,aS,v,hx,hl,h=>by
  rw[aJ] at hl;obtain⟨ya,r,rfl,h1,h2⟩:=hl
  cases x with
  | a x=>
   cases y with
   | a y=>
    rw[VS] at hx h1;subst hx;subst h1;simp only[x7] at h;obtain⟨z,hz,h⟩:=bind_eq_some_iff.1 h;obtain⟨w,hw,kw⟩:=Et (x:=.a z) (xa:=z) (by rw[VS]) h2 h;exact⟨w,by simp only[nY,hz,ac];exact hw,kw⟩
   | _=>simp[x7] at h
  | _=>simp[x7] at h
end
section
variable {θ θ':Nat->Loc} {ρ ρ0:kq} {P:Program}
mutual
def VS.ids(hθ:∀p,(θ' p).id=(θ p).id):∀{v:SV} {x:AV},VS θ ρ v x->VS θ' ρ v x
 | .any,_,_=>by rw[VS];trivial
 | .a v,x,h=>by rw[VS] at h ⊢;exact h
 | .sl n e cs,x,h=>by rw[VS] at h ⊢;exact h
 | .im ks vs,x,h=>by rw[VS] at h ⊢;exact h
 | .ip cs,x,h=>by rw[VS] at h ⊢;exact h
 | .ptr p _,_,h=>by rw[VS] at h ⊢;rw[hθ p];exact h
 | .map p,_,h=>by rw[VS] at h ⊢;rw[hθ p];exact h
 | .buf p _ _ _,_,h=>by rw[VS] at h ⊢;rw[hθ p];exact h
 | .sub p _ _ _ _,_,h=>by rw[VS] at h ⊢;rw[hθ p];exact h
 | .e0 e,x,h=>by rw[VS] at h ⊢;exact h
 | .ag cs,x,h=>by rw[VS] at h ⊢;obtain⟨aS,h1,h2⟩:=h;exact⟨aS,h1,cZ.ids hθ h2⟩
 | .bC cs,x,h=>by rw[VS] at h ⊢;obtain⟨aS,h1,h2⟩:=h;exact⟨aS,h1,cZ.ids hθ h2⟩
 | .fn g f c,x,h=>by rw[VS] at h ⊢;obtain⟨xs,ys,h1,h2,h3⟩:=h;exact⟨xs,ys,h1,cZ.ids hθ h2,cZ.ids hθ h3⟩
 | .iface t v,x,h=>by rw[VS] at h ⊢;obtain⟨y,h1,h2⟩:=h;exact⟨y,h1,VS.ids hθ h2⟩
def cZ.ids(hθ:∀p,(θ' p).id=(θ p).id):∀{ds:List SV} {aS:List AV},cZ θ ρ ds aS->cZ θ' ρ ds aS
 | [],aS,h=>by rw[aT] at h ⊢;exact h
 | d::ds,aS,h=>by
  rw[aJ] at h ⊢;obtain⟨a,r,h1,h2,h3⟩:=h;exact⟨a,r,h1,VS.ids hθ h2,cZ.ids hθ h3⟩
end
def jg{o:Nat}(hθ:∀p,p≠o->θ' p=θ p){v:SV}{x:AV}(h:VS θ ρ v x):VS θ' ρ (aM o v) x:=by
 unfold aM;cases hn:names o v
 ·exact h.uX hθ hn
 ·rw[ae,VS];trivial
def cZ.map{g:SV->SV}(hg:∀v x,VS θ ρ v x->VS θ' ρ (g v) x):∀{ds:List SV} {aS:List AV},cZ θ ρ ds aS->cZ θ' ρ (ds.map g) aS
 | [],aS,h=>by rw[aT] at h;rw[bv,aT];exact h
 | d::ds,aS,h=>by
  rw[aJ] at h;rw[a0,aJ];obtain⟨a,r,h1,h2,h3⟩:=h;exact⟨a,r,h1,hg _ _ h2,cZ.map hg h3⟩
def iF(o:Nat):∀(f:Fm) (i:Nat),aO (di o f) i=aM o (aO f i)
 | [],i=>rfl
 | (d,v)::f,i=>by
  show(if d=i then aM o v else aO (di o f) i)=aM o (if d=i then v else aO f i);rw[iF o f i];by_cases h:d=i
  ·rw[t8 h,t8 h]
  ·rw[ul h,ul h]
def tf(g:SV->SV):SO->SO
 | .cells cs=>.cells (cs.map g)
 | .map ks vs b=>.map ks (vs.map g) b
 | .iter m bs c pos=>.iter (g m) bs c pos
 | .pd ks vs bs c pos=>.pd ks vs bs c pos
 | .gone=>.gone
 | .loop c ls p f=>.loop c ls p (f.map λq=>(q.1,g q.2))
 | .oT N=>.oT N
def Cy(g:SV->SV):∀(f:Fm) (i:Nat),aO (f.map λq=>(q.1,g q.2)) i=g (aO f i)\/aO (f.map λq=>(q.1,g q.2)) i=.any
 | [],i=>.inr rfl
 | (d,v)::f,i=>by
  show(if d=i then g v else aO (f.map λq=>(q.1,g q.2)) i)=g (if d=i then v else aO f i)\/(if d=i then g v else aO (f.map λq=>(q.1,g q.2)) i)=.any;by_cases h:d=i
  ·rw[t8 h,t8 h];exact .inl rfl
  ·rw[ul h,ul h];exact Cy g f i
def Ps(o:Nat):bO o=tf (aM o):=by funext so;cases so<;>rfl
def uu(so:SO):tf (λv=>v) so=so:=by cases so<;>simp[tf]
def C0{g:SV->SV}{so:SO}(h:tf g so≠.gone):so≠.gone:=by intro e;subst e;exact h rfl
def nK.map{g:SV->SV}(hg:∀v x,VS θ ρ v x->VS θ' ρ (g v) x){h h':H}{L:Loc}{so:SO}(hx:nK θ ρ h L so)(ho:h'.aU.get L.id=h.aU.get L.id)(hf:h'.dB.get L.bY=h.dB.get L.bY):nK θ' ρ h' L (tf g so):=by
 cases so with
 | cells cs=>obtain⟨aS,h1,h2,h3⟩:=hx;exact⟨aS,by rw[ho];exact h1,h2.map hg,by rw[hf];exact h3⟩
 | map ks vs b=>obtain⟨l,c,h1,h2,h3⟩:=hx;exact⟨l,c,by rw[ho];exact h1,h2,h3.map hg⟩
 | iter m bs c pos=>obtain⟨lq,h1,h2⟩:=hx;exact⟨lq,hg _ _ h1,by rw[ho];exact h2⟩
 | pd ks vs bs c pos=>obtain⟨lq,l,h1,h2,h3,h4⟩:=hx;exact⟨lq,l,h1,h2,h3,by rw[ho];exact h4⟩
 | gone=>trivial
 | loop c ls p f=>
  obtain⟨h1,h2,h3⟩:=hx;refine⟨h1,by rw[ho];exact h2,λi hi=>?_⟩
  rcases Cy g f i with e | e
  ·rw[e];exact hg _ _ (h3 i hi)
  ·rw[e,VS];trivial
 | oT N=>exact⟨hx.1,by rw[ho];exact hx.2⟩
def vt.symm{L M:Loc}(h:vt L M):vt M L:=⟨h.xx.symm,h.yx.symm,h.xy.symm,h.yy.symm,h.f.symm⟩
def FN.mono{b:En}{n m:Nat}{L:Loc}(h:FN b n L)(hn:n<=m):FN b m L:=⟨h.e,⟨h.x.1,by have:=h.x.2;omega⟩,⟨h.y.1,by have:=h.y.2;omega⟩,⟨h.f.1,by have:=h.f.2;omega⟩⟩
def gT(θ:Nat->Loc)(o:Nat)(L:Loc):Nat->Loc:=λp=>if p=o then L else θ p
def cz(θ:Nat->Loc)(o:Nat)(L:Loc):gT θ o L o=L:=t8 rfl
def bV(θ:Nat->Loc){o p:Nat}(L:Loc)(h:p≠o):gT θ o L p=θ p:=ul h
def RS.Bx{h0:En}{h h':H}{S S':List SO}{o:Nat}{so':SO}{L':Loc}{g:SV->SV}(hR:RS θ ρ0 ρ h0 h S)(hnx:h.next<=h'.next)(hob0:∀j,h0.pr j->h'.aU.get j=h.aU.get j)(hfm0:∀j,h0.pf j->h'.dB.get j=h.dB.get j)(hlw:h0.lo<=h'.low)(hln:h'.low<=h'.next)(hL:FN h0 h'.next L')
 (hg:∀v x,VS θ ρ v x->VS (gT θ o L') ρ (g v) x)
 (hob:∀p so,p≠o->S[p]?=some so->so≠.gone->h'.aU.get (θ p).id=h.aU.get (θ p).id/\h'.dB.get (θ p).bY=h.dB.get (θ p).bY/\vt (θ p) L')
 (hrow:∀id ob,ρ id=some ob->h'.aU.get id=h.aU.get id/\id≠L'.x/\id≠L'.y)
 (hnew:nK (gT θ o L') ρ h' L' so') (hS:∀p,p≠o->S'[p]?=(S[p]?).map (tf g)) (hSo:S'[o]?=some so'):RS (gT θ o L') ρ0 ρ h0 h' S':=by
 have other:∀p so,p≠o->S'[p]?=some so->so≠.gone->∃s,S[p]?=some s/\s≠.gone/\so=tf g s:=by
  intro p so hp h1 h2;rw[hS p hp] at h1;obtain⟨s,hs,rfl⟩:=ar h1;exact⟨s,hs,C0 h2,rfl⟩
 refine⟨hR.ok,be hR.nx hnx,λj hj=>(hob0 j hj).trans (hR.ob j hj),λj hj=>(hfm0 j hj).trans (hR.fm j hj),hlw,hln,?_,?_,?_,hR.mM⟩
 ·intro p so h1 h2;by_cases hp:p=o
  ·subst hp;rw[hSo] at h1;cases h1;rw[cz];exact⟨hL,hnew⟩
  ·obtain⟨s,hs,hsg,rfl⟩:=other p so hp h1 h2;rw[bV _ _ hp];obtain⟨k1,k2⟩:=hR.obj p s hs hsg;obtain⟨q1,q2,_⟩:=hob p s hp hs hsg;exact⟨k1.mono hnx,k2.map hg q1 q2⟩
 ·intro p q so so' hpq h1 h2 h3 h4;by_cases hp:p=o
  ·subst hp;obtain⟨s,hs,hsg,rfl⟩:=other q so' (λe=>hpq e.symm) h3 h4;rw[cz,bV _ _ (λe=>hpq e.symm)];exact(hob q s (λe=>hpq e.symm) hs hsg).2.2.symm
  ·obtain⟨s,hs,hsg,rfl⟩:=other p so hp h1 h2;rw[bV _ _ hp];by_cases hq:q=o
   ·subst hq;rw[cz];exact(hob p s hp hs hsg).2.2
   ·obtain⟨s',hs',hsg',rfl⟩:=other q so' hq h3 h4;rw[bV _ _ hq];exact hR.sep p q s s' hpq hs hsg hs' hsg'
 ·intro id ob hi;obtain⟨k1,k2,k3⟩:=hR.row id ob hi;obtain⟨q1,q2,q3⟩:=hrow id ob hi;refine⟨ay k1 hnx,by rw[q1];exact k2,?_⟩;intro p so h1 h2;by_cases hp:p=o
  ·subst hp;rw[cz];exact⟨q2,q3⟩
  ·obtain⟨s,hs,hsg,rfl⟩:=other p so hp h1 h2;rw[bV _ _ hp];exact k3 p s hs hsg
def bf{α:Type}{l:List α}{i:Nat}{x:α}(h:l[i]?=some x):i<l.length:=(List.getElem?_eq_some_iff.1 h).1
def rT(o:Nat)(S:List SO)(p:Nat):(dx o S)[p]?=(S[p]?).map (tf (aM o)):=by
 unfold dx;rw[Ps,a7]
def RS.new{h0:En}{h:H}{S:List SO}{so:SO}{ob:AO}(hR:RS θ ρ0 ρ h0 h S)(hob:(∃cs aS,so=.cells cs/\ob=.cells aS h.next/\cZ θ ρ cs aS)\/(so=.map [] [] none/\ob=.map [] 0)):
 RS (gT θ S.length ⟨h.next,h.next,h.next,h.next⟩) ρ0 ρ h0 { h.lay h.next ob with next:=h.next+1 } (gS S so)/\∀v x,VS θ ρ v x->VS (gT θ S.length ⟨h.next,h.next,h.next,h.next⟩) ρ (aM S.length v) x:=by
 have hg:∀v x,VS θ ρ v x->VS (gT θ S.length ⟨h.next,h.next,h.next,h.next⟩) ρ (aM S.length v) x:=λv x hv=>jg (λp hp=>bV _ _ hp) hv;refine⟨?_,hg⟩;have hb:=hR.nx;have hpr:∀j,h0.pr j->j<h.next:=λj hj=>ay (hR.ok.pr j hj) hb;have hpf:∀j,h0.pf j->j<h.next:=λj hj=>ay (hR.ok.pf j hj) hb
 have hobj:∀j,j<h.next->({ h.lay h.next ob with next:=h.next+1 }:H).aU.get j=h.aU.get j:=by
  intro j hj
  rcases hob with⟨cs,aS,_,rfl,_⟩ | ⟨_,rfl⟩<;>exact bn _ _ (by omega)
 have hfam:∀j,j<h.next->({ h.lay h.next ob with next:=h.next+1 }:H).dB.get j=h.dB.get j:=by
  intro j hj
  rcases hob with⟨cs,aS,_,rfl,_⟩ | ⟨_,rfl⟩
  ·exact bn _ _ (by omega)
  ·rfl
 have hlow:({ h.lay h.next ob with next:=h.next+1 }:H).low=h.low:=by
  rcases hob with⟨cs,aS,_,rfl,_⟩ | ⟨_,rfl⟩<;>rfl
 refine hR.Bx (g:=aM S.length) (so':=bO S.length so) (by show h.next<=h.next+1;omega) (λj hj=>hobj j (hpr j hj)) (λj hj=>hfam j (hpf j hj)) (by rw[hlow];exact hR.lw) (by rw[hlow];exact cj hR.ln) ⟨.inl rfl,⟨λhj=>cb _ (hpr _ hj),bw _⟩,⟨λhj=>cb _ (hpr _ hj),bw _⟩,⟨λhj=>cb _ (hpf _ hj),bw _⟩⟩ hg ?_ ?_ ?_ ?_ ?_
 ·intro p s hp hs hsg;obtain⟨⟨k1,k2,k3,k4⟩,_⟩:=hR.obj p s hs hsg;refine⟨hobj _ (by rcases k1 with e | e<;>omega),hfam _ k4.2,⟨?_,?_,?_,?_,?_⟩⟩<;>(simp only;omega)
 ·intro id ob' hi;have:=(hR.row id ob' hi).1;exact⟨hobj id this,by simp only;omega,by simp only;omega⟩
 ·rcases hob with⟨cs,aS,rfl,rfl,hv⟩ | ⟨rfl,rfl⟩
  ·exact⟨aS,cX _ _ _,hv.map hg,cX _ _ _⟩
  ·exact⟨[],0,cX _ _ _,⟨rfl,⟨List.nodup_nil,λe he=>by simp at he⟩,λp hp=>by cases hp⟩,by rw[bv,bv,aT]⟩
 ·intro p hp;unfold gS
  have hl:(dx S.length S).length=S.length:=by unfold dx;rw[a8]
  rw[ch];split
  ·exact rT _ _ _
  ·rename_i hlt;rw[hl] at hlt ⊢;have:S[p]?=none:=bb (by omega);rw[this,bb (by simp;omega)];rfl
 ·unfold gS
  have hl:(dx S.length S).length=S.length:=by unfold dx;rw[a8]
  rw[List.getElem?_append_right (by omega),hl,Nat.sub_self];rfl
def pJ{h:H}{id bY x y:Nat}(hf:h.dB.get bY=some (x,y)){j:Nat}(hj:j≠bY):(h.alone id bY).dB.get j=h.dB.get j:=by
 unfold H.alone;rw[hf];simp only;cases beq x id&&beq y id
 ·exact bn _ _ hj
 ·rfl
def oh{a b c:Nat}(h1:c<=a)(h2:c<=b):c<=gE a b:=by
 unfold gE;cases ble a b
 ·exact h2
 ·exact h1
def Cj{h:H}{id bY x y b:Nat}(hf:h.dB.get bY=some (x,y))(hx:b<=x)(hy:b<=y)(hb:b<=h.low)(hn:h.low<=h.next):b<=(h.alone id bY).low/\(h.alone id bY).low<=h.next:=by
 unfold H.alone;rw[hf];simp only;cases beq x id&&beq y id
 ·exact⟨oh hb (oh hx hy),be (dU _ _).1 hn⟩
 ·exact⟨hb,hn⟩
def RS.store{h0:En}{h:H}{S:List SO}{o:Nat}{cs vs:List SV}{off:Nat}{xs:List AV}(hR:RS θ ρ0 ρ h0 h S)(hS:S[o]?=some (.cells cs))(hv:cZ θ ρ vs xs)(hone:xs.all ke=true)(hle:off+vs.length<=cs.length):
 ∃h',h.store (θ o).id off xs=some h'/\RS (gT θ o ⟨(θ o).id,(θ o).bY,(θ o).id,(θ o).id⟩) ρ0 ρ h0 h' (S.set o (.cells (cs.take off++(vs++cs.drop (off+vs.length)))))/\∀v x,VS θ ρ v x->VS (gT θ o ⟨(θ o).id,(θ o).bY,(θ o).id,(θ o).id⟩) ρ v x:=by
 have hg:∀v x,VS θ ρ v x->VS (gT θ o ⟨(θ o).id,(θ o).bY,(θ o).id,(θ o).id⟩) ρ v x:=λv x hv=>hv.ids λp=>by
  by_cases hp:p=o
  ·subst hp;rw[cz]
  ·rw[bV _ _ hp]
 obtain⟨⟨k1,k2,k3,k4⟩,aS,q1,q2,q3⟩:=hR.obj o _ hS (λh=>by cases h);have a2:(h.alone (θ o).id (θ o).bY).next=h.next:=(sR (Z:=0) (id:=(θ o).id) q3 (bh _) (bh _) (bh _)).2;have px:∀j,h0.pr j->j≠(θ o).x:=λj hj e=>k2.1 (e▸hj);have py:∀j,h0.pr j->j≠(θ o).y:=λj hj e=>k3.1 (e▸hj)
 have pi:∀j,h0.pr j->j≠(θ o).id:=λj hj=>by rcases k1 with e | e<;>rw[e];exact px j hj;exact py j hj
 have pfm:∀j,h0.pf j->j≠(θ o).bY:=λj hj e=>k4.1 (e▸hj)
 have lid:h0.lo<=(θ o).id:=by rcases k1 with e | e<;>rw[e];exact hR.ok.lo _ k2.1;exact hR.ok.lo _ k3.1
 have hidn:(θ o).id<h.next:=by rcases k1 with e | e<;>rw[e];exact k2.2;exact k3.2
 have al:=Cj (id:=(θ o).id) q3 (hR.ok.lo _ k2.1) (hR.ok.lo _ k3.1) hR.lw hR.ln;have hl:=q2.length;have hlx:=hv.length;refine⟨{ h.alone (θ o).id (θ o).bY with aU:=(h.alone (θ o).id (θ o).bY).aU.put (θ o).id (some (.cells (aS.take off++(xs++aS.drop (off+xs.length))) (θ o).bY)),low:=gE (h.alone (θ o).id (θ o).bY).low (θ o).id },?_,?_,hg⟩
 ·unfold H.store;rw[q1];simp only;rw[eZ (show off+xs.length<=aS.length by omega),hone];rfl
 ·refine hR.Bx (g:=λv=>v) (so':=.cells (cs.take off++(vs++cs.drop (off+vs.length)))) (by show h.next<=(h.alone _ _).next;omega) (λj hj=>?_) (λj hj=>pJ q3 (pfm j hj)) (oh al.1 lid) ?_ ⟨.inl rfl,⟨λhj=>pi _ hj rfl,?_⟩,⟨λhj=>pi _ hj rfl,?_⟩,⟨k4.1,?_⟩⟩ hg ?_ ?_ ?_ ?_ ?_
  ·show(Tr.put _ _ _).get j=_;rw[bn _ _ (pi j hj)];exact kM q3 (px j hj) (py j hj)
  ·show gE (h.alone _ _).low _<=(h.alone _ _).next;rw[a2];exact be (dU _ _).1 al.2
  ·show(θ o).id<(h.alone _ _).next;rw[a2];exact hidn
  ·show(θ o).id<(h.alone _ _).next;rw[a2];exact hidn
  ·show(θ o).bY<(h.alone _ _).next;rw[a2];exact k4.2
  ·intro p s hp hs hsg;have sp:=hR.sep p o s _ hp hs hsg hS (λh=>by cases h);obtain⟨⟨j1,j2,j3,j4⟩,_⟩:=hR.obj p s hs hsg
   have e1:(θ p).id≠(θ o).x:=by rcases j1 with e | e<;>rw[e];exact sp.xx;exact sp.yx
   have e2:(θ p).id≠(θ o).y:=by rcases j1 with e | e<;>rw[e];exact sp.xy;exact sp.yy
   refine⟨?_,pJ q3 sp.f,⟨?_,?_,?_,?_,sp.f⟩⟩
   ·show(Tr.put _ _ _).get _=_;rw[bn _ _ (by rcases k1 with e | e<;>rw[e]<;>assumption)];exact kM q3 e1 e2
   ·simp only;rcases k1 with e | e<;>rw[e];exact sp.xx;exact sp.xy
   ·simp only;rcases k1 with e | e<;>rw[e];exact sp.xx;exact sp.xy
   ·simp only;rcases k1 with e | e<;>rw[e];exact sp.yx;exact sp.yy
   ·simp only;rcases k1 with e | e<;>rw[e];exact sp.yx;exact sp.yy
  ·intro id ob hi;obtain⟨_,_,r3⟩:=hR.row id ob hi;obtain⟨e1,e2⟩:=r3 o _ hS (λh=>by cases h)
   have e3:id≠(θ o).id:=by rcases k1 with e | e<;>rw[e]<;>assumption
   refine⟨?_,e3,e3⟩;show(Tr.put _ _ _).get _=_;rw[bn _ _ e3];exact kM q3 e1 e2
  ·refine⟨_,cX _ _ _,?_,Ci q3⟩
   have hw:cZ θ ρ (cs.take off++(vs++cs.drop (off+vs.length))) (aS.take off++(xs++aS.drop (off+xs.length))):=by
    rw[hlx];exact(q2.take off).app (hv.app (q2.drop (off+vs.length)))
   have:=hw.map hg;rw[List.map_id'] at this;exact this
  ·intro p hp;rw[bd (λe=>hp e.symm)]
   cases S[p]? with
   | none=>rfl
   | some s=>rw[aj,uu]
  ·rw[a9 (bf hS)]
def RS.Nq{h0:En}{h:H}{S:List SO}{o:Nat}{ks ks':List AV}{vs vs':List SV}{l':List (AV×AV×Nat)}{c':Nat}{b b':Option (List Nat×Nat)}(hR:RS θ ρ0 ρ h0 h S)(hS:S[o]?=some (.map ks vs b))(h1:Q7 l' c' ks' b')(h2:cZ θ ρ vs' (l'.map (·.2.1))):
 RS θ ρ0 ρ h0 (h.set (θ o).id (.map l' c')) (S.set o (.map ks' vs' b')):=by
 obtain⟨⟨k1,k2,k3,k4⟩,l,c,q1,q2,q3⟩:=hR.obj o _ hS (λh=>by cases h)
 have heq:gT θ o (θ o)=θ:=by
  funext p;unfold gT;split
  ·rename_i e;rw[e]
  ·rfl
 have hg:∀v x,VS θ ρ v x->VS (gT θ o (θ o)) ρ v x:=λv x hv=>by rw[heq];exact hv
 have pi:∀j,h0.pr j->j≠(θ o).id:=λj hj e=>by rcases k1 with e' | e'<;>rw[e'] at e;exact k2.1 (e▸hj);exact k3.1 (e▸hj)
 have lid:h0.lo<=(θ o).id:=by rcases k1 with e | e<;>rw[e];exact hR.ok.lo _ k2.1;exact hR.ok.lo _ k3.1
 have:=hR.Bx (g:=λv=>v) (h':=h.set (θ o).id (.map l' c')) (S':=S.set o (.map ks' vs' b')) (so':=.map ks' vs' b') (L':=θ o) (b0 _) (λj hj=>bn _ _ (pi j hj)) (λj hj=>rfl) (oh hR.lw lid) (be (dU _ _).1 hR.ln) ⟨k1,k2,k3,k4⟩ hg ?_ ?_ ?_ ?_ ?_
 ·rw[heq] at this;exact this
 ·intro p s hp hs hsg;have sp:=hR.sep p o s _ hp hs hsg hS (λh=>by cases h);obtain⟨⟨j1,j2,j3,j4⟩,_⟩:=hR.obj p s hs hsg;refine⟨bn _ _ ?_,rfl,sp⟩
  rcases j1 with e | e<;>rcases k1 with e' | e'<;>rw[e,e']
  ·exact sp.xx
  ·exact sp.xy
  ·exact sp.yx
  ·exact sp.yy
 ·intro id ob hi;obtain⟨_,_,r3⟩:=hR.row id ob hi;obtain⟨e1,e2⟩:=r3 o _ hS (λh=>by cases h);exact⟨bn _ _ (by rcases k1 with e | e<;>rw[e]<;>assumption),e1,e2⟩
 ·rw[heq];exact⟨l',c',cX _ _ _,h1,h2⟩
 ·intro p hp;rw[bd (λe=>hp e.symm)]
  cases S[p]? with
  | none=>rfl
  | some s=>rw[aj,uu]
 ·rw[a9 (bf hS)]
def RS.fork{h0:En}{h:H}{S:List SO}{o n:Nat}{cs vs:List SV}{xs aS:List AV}(hR:RS θ ρ0 ρ h0 h S)(hS:S[o]?=some (.cells cs))(hv:cZ θ ρ vs xs)(has:h.aU.get (θ o).id=some (.cells aS (θ o).bY))(hle:n<=cs.length):
 (h.alone (θ o).id (θ o).bY).next=h.next/\RS (gT θ o ⟨h.next,(θ o).bY,(θ o).id,h.next⟩) ρ0 ρ h0 (h.eK (θ o).id (θ o).bY (aS.take n) ((aS.drop 0).take n++xs)) ((dx o S).set o (bO o (.cells (cs.take n++vs))))/\∀v x,VS θ ρ v x->VS (gT θ o ⟨h.next,(θ o).bY,(θ o).id,h.next⟩) ρ (aM o v) x:=by
 have hg:∀v x,VS θ ρ v x->VS (gT θ o ⟨h.next,(θ o).bY,(θ o).id,h.next⟩) ρ (aM o v) x:=λv x hv=>jg (λp hp=>bV _ _ hp) hv;obtain⟨⟨k1,k2,k3,k4⟩,as',q1,q2,q3⟩:=hR.obj o _ hS (λh=>by cases h);rw[has] at q1;cases q1;have a2:(h.alone (θ o).id (θ o).bY).next=h.next:=(sR (Z:=0) (id:=(θ o).id) q3 (bh _) (bh _) (bh _)).2;have px:∀j,h0.pr j->j≠(θ o).x:=λj hj e=>k2.1 (e▸hj);have py:∀j,h0.pr j->j≠(θ o).y:=λj hj e=>k3.1 (e▸hj)
 have pi:∀j,h0.pr j->j≠(θ o).id:=λj hj=>by rcases k1 with e | e<;>rw[e];exact px j hj;exact py j hj
 have pfm:∀j,h0.pf j->j≠(θ o).bY:=λj hj e=>k4.1 (e▸hj)
 have lid:h0.lo<=(θ o).id:=by rcases k1 with e | e<;>rw[e];exact hR.ok.lo _ k2.1;exact hR.ok.lo _ k3.1
 have hidn:(θ o).id<h.next:=by rcases k1 with e | e<;>rw[e];exact k2.2;exact k3.2
 have al:=Cj (id:=(θ o).id) q3 (hR.ok.lo _ k2.1) (hR.ok.lo _ k3.1) hR.lw hR.ln;have hid:(θ o).id<h.next:=hidn;have hb:=hR.nx;have hprn:∀j,h0.pr j->j<h.next:=λj hj=>ay (hR.ok.pr j hj) hb;refine⟨a2,?_,hg⟩;refine hR.Bx (g:=aM o) (so':=bO o (.cells (cs.take n++vs))) (by show h.next<=(h.alone _ _).next+1;omega) (λj hj=>?_) (λj hj=>?_) ?_ ?_ ⟨.inr rfl,⟨λhj=>pi _ hj rfl,?_⟩,⟨λhj=>cb _ (hprn _ hj),?_⟩,⟨k4.1,?_⟩⟩ hg ?_ ?_ ?_ ?_ ?_
 ·simp only[H.eK];rw[a2,bn _ _ (by have:=hprn j hj;omega),bn _ _ (pi j hj)];exact kM q3 (px j hj) (py j hj)
 ·simp only[H.eK];rw[bn _ _ (pfm j hj)];exact pJ q3 (pfm j hj)
 ·simp only[H.eK];exact oh al.1 lid
 ·simp only[H.eK];rw[a2];exact cj (be (dU _ _).1 al.2)
 ·simp only[H.eK,a2];omega
 ·simp only[H.eK,a2];omega
 ·simp only[H.eK,a2];have:=k4.2;omega
 ·intro p s hp hs hsg;have sp:=hR.sep p o s _ hp hs hsg hS (λh=>by cases h);obtain⟨⟨j1,j2,j3,j4⟩,_⟩:=hR.obj p s hs hsg
  have e1:(θ p).id≠(θ o).x:=by rcases j1 with e | e<;>rw[e];exact sp.xx;exact sp.yx
  have e2:(θ p).id≠(θ o).y:=by rcases j1 with e | e<;>rw[e];exact sp.xy;exact sp.yy
  have e3:(θ p).id<h.next:=by rcases j1 with e | e<;>omega
  refine⟨?_,?_,⟨?_,?_,?_,?_,sp.f⟩⟩
  ·simp only[H.eK];rw[a2,bn _ _ (by omega),bn _ _ (by rcases k1 with e | e<;>rw[e]<;>assumption)];exact kM q3 e1 e2
  ·simp only[H.eK];rw[bn _ _ sp.f];exact pJ q3 sp.f
  ·simp only;rcases k1 with e | e<;>rw[e];exact sp.xx;exact sp.xy
  ·simp only;omega
  ·simp only;rcases k1 with e | e<;>rw[e];exact sp.yx;exact sp.yy
  ·simp only;omega
 ·intro id ob hi;obtain⟨r1,_,r3⟩:=hR.row id ob hi;obtain⟨e1,e2⟩:=r3 o _ hS (λh=>by cases h)
  have e3:id≠(θ o).id:=by rcases k1 with e | e<;>rw[e]<;>assumption
  refine⟨?_,e3,by simp only;omega⟩;simp only[H.eK];rw[a2,bn _ _ (by omega),bn _ _ e3];exact kM q3 e1 e2
 ·refine⟨_,?_,((q2.take n).app hv).map hg,?_⟩
  ·simp only[H.eK];rw[a2,cX,bZ]
  ·simp only[H.eK];rw[cX,a2]
 ·intro p hp;rw[bd (λe=>hp e.symm)];exact rT _ _ _
 ·rw[a9 (by unfold dx;rw[a8];exact bf hS)]
end
section
variable {θ θ':Nat->Loc} {ρ ρ0:kq} {P:Program}
def HM{h0:En}{h:H}{S:List SO}(hR:RS θ ρ0 ρ h0 h S){id:Nat}{row:List AV}(hr:qf ρ id=some row):sy h.aU id=some row:=by
 unfold qf at hr
 cases ho:ρ id with
 | none=>rw[ho] at hr;cases hr
 | some ob=>
  have:=(hR.row id ob ho).2.1;rw[ho] at hr;unfold sy;rw[this]
  cases ob<;>first | exact hr | (cases hr;done)
def G4{h0:En}{h:H}{S:List SO}(hR:RS θ ρ0 ρ h0 h S){tt:TypeId}{a:SV}{x:AV}(ha:VS θ ρ a x){v:SV}(hl:uo P S tt a=some v):∃y,Ep P h tt (some x)=some y/\VS θ ρ v y:=by
 unfold uo at hl;split at hl
 ·rename_i o off;rw[VS] at ha;subst ha;split at hl
  ·rename_i cs hS;obtain⟨_,aS,q1,q2,_⟩:=hR.obj o _ hS (λh=>by cases h);obtain⟨y,k1,k2⟩:=uE q2 hl;exact⟨y,by rw[CW,CU (aS:=aS) (by unfold sy;rw[q1];rfl)];exact k1,k2⟩
  ·cases hl
 ·rename_i cs;rw[VS,GS] at ha;obtain⟨id,off,row,r,rfl,h2,h3,h4⟩:=ha;obtain⟨y,k1,k2⟩:=uE (h4.vs (θ:=θ)) hl;refine⟨y,?_,k2⟩;rw[CW,CU (HM hR h2)];have:=NC h3 k1;rw[Nat.add_zero] at this;exact this
 ·cases hl
def NS{h0:En}{h:H}{S S':List SO}(hR:RS θ ρ0 ρ h0 h S){tt:TypeId}{a v:SV}{x y:AV}(ha:VS θ ρ a x)(hv:VS θ ρ v y)(hs:A2 P S tt a v=some S'):
 ∃h' θ',EY P h tt (some x) (some y)=some h'/\RS θ' ρ0 ρ h0 h' S'/\∀v x,VS θ ρ v x->VS θ' ρ v x:=by
 unfold A2 at hs;split at hs
 ·rename_i o off;rw[VS] at ha;subst ha;split at hs
  ·rename_i cs hS;obtain⟨⟨n,_⟩,hq,hs⟩:=bind_eq_some_iff.1 hs;obtain⟨vs,hvs,hs⟩:=bind_eq_some_iff.1 hs;obtain⟨⟨b1,b2,b3⟩,hs⟩:=cu hs;cases hs;have hn:=(vk hq).2;simp only at b1 b2 hn;have kv:=vF hv hvs;subst b1;obtain⟨h',e1,e2,e3⟩:=hR.store hS kv (mE kv b3) b2;refine⟨h',_,?_,e2,e3⟩;rw[Kc];unfold H.storeVar;rw[hn,ac,kv.length,ad,ae];exact e1
  ·cases hs
 ·cases hs
def R7{P:Program}{t:Tr AV}{h:H}{nm:String}{first cap:Array Operand}:ek P t h (.makeFunc (.method nm) first cap)=((x3 t first.toList).bind λa=>(x3 t cap.toList).map λb=>AV.fn (.method nm) a b).map λv=>[(some v,h)]:=rfl
def RR{v w:SV}{x:AV}(hv:VS θ ρ v x)(h:cI P v=some w):pq P x=some x/\w=v:=by
 cases v with
 | ptr o off=>simp only[cI,Option.some.injEq] at h;rw[VS] at hv;subst hv;exact⟨rfl,h.symm⟩
 | ip cs=>simp only[cI,Option.some.injEq] at h;rw[VS,GS] at hv;obtain⟨id,off,row,r,rfl,_⟩:=hv;exact⟨rfl,h.symm⟩
 | fn g a b=>simp only[cI,Option.some.injEq] at h;rw[VS] at hv;obtain⟨xs,ys,rfl,_⟩:=hv;exact⟨rfl,h.symm⟩
 | sl n e cs=>simp only[cI,Option.some.injEq] at h;rw[VS,GS] at hv;rcases hv with⟨_,_,o,e',c,rfl,_,_⟩ | ⟨id,off,cap,row,rfl,_⟩<;>exact⟨rfl,h.symm⟩
 | buf o n e c=>simp only[cI,Option.some.injEq] at h;rw[VS] at hv;subst hv;exact⟨rfl,h.symm⟩
 | sub o off n e c=>simp only[cI,Option.some.injEq] at h;rw[VS] at hv;subst hv;exact⟨rfl,h.symm⟩
 | e0 e=>simp only[cI,Option.some.injEq] at h;rw[VS] at hv;obtain⟨o,e',rfl,_⟩:=hv;exact⟨rfl,h.symm⟩
 | a u=>
  unfold cI at h;split at h
  case h_8 hu=>
   cases hu;obtain⟨g,hg,rfl⟩:=ar h;rw[VS] at hv;subst hv;refine⟨?_,rfl⟩;unfold pq;simp only[hg,aj]
  all_goals first | (cases h;done) | (rename_i hu;cases hu;done)
 | _=>simp[cI] at h
def MF{a b:Nat}(h:a<b):Nat.blt a b=true:=by rw[Nat.blt_eq];exact h
def LG{cs:List SV}{x:AV}{k:Nat}(hv:GS ρ (.ip cs) x)(hk:k<=cs.length):∃id off row,x=.ptr (some (id,off))/\qf ρ id=some row/\GS ρ (.ip (cs.drop k)) (.ptr (some (id,off+k))):=by
 rw[GS] at hv;obtain⟨id,off,row,r,rfl,h2,h3,h4⟩:=hv;refine⟨id,off,row,rfl,h2,?_⟩;have hl:=h4.length;rw[ce,cd] at hl;rw[GS];refine⟨id,off+k,row,r-k,rfl,h2,by omega,?_⟩;have:=h4.drop k;rw[b7,bG] at this;exact this
def BG{s:TypeId}{v w:SV}{x:AV}{fl:Nat}(hv:VS θ ρ v x)(h:mT P s v fl=some w):∃y,jt P s x fl=some y/\VS θ ρ w y:=by
 unfold mT at h;obtain⟨q,hq,h⟩:=bind_eq_some_iff.1 h;obtain⟨hn0,h⟩:=cu h;obtain⟨fs,fd,hu,_,hfd,hn,e1,_⟩:=vR hq
 have hb:beq q.2.2 0=false:=by
  cases hb:beq q.2.2 0
  ·rfl
  ·exact t7 (cU hb) hn0
 cases v with
 | ptr o off=>
  simp only at h;cases h;rw[VS] at hv;subst hv;unfold jt;rw[hu];simp only;rw[hfd,ac,hn,ac,hb,ai,e1];exact⟨_,rfl,by rw[VS]⟩
 | ip cs=>
  simp only at h;obtain⟨hk,h⟩:=cu h;cases h;rw[VS] at hv;obtain⟨id,off,row,rfl,_,h2⟩:=LG hv hk;unfold jt;rw[hu];simp only;rw[hfd,ac,hn,ac,hb,ai,e1];exact⟨_,rfl,by rw[VS];exact h2⟩
 | _=>simp at h
def MZ{s:TypeId}{v w:SV}{x:AV}{fl:Nat}(hv:VS θ ρ v x)(h:vP P s v fl=some w):∃y,vO P s x fl=some y/\VS θ ρ w y:=by
 cases v with
 | ag cs=>
  simp only[vP] at h;rw[VS] at hv;obtain⟨aS,rfl,hv⟩:=hv;obtain⟨q,hq,h⟩:=bind_eq_some_iff.1 h;obtain⟨fs,fd,hu,_,hfd,hn,e1,e2⟩:=vR hq;obtain⟨y,k1,k2⟩:=uE hv h;unfold vO;rw[hu];simp only;rw[hfd,ac,e1,e2];exact⟨y,k1,k2⟩
 | _=>simp[vP] at h
def Ew{v:SV}{x:AV}{i:Nat}(hv:VS θ ρ v x)(h:JR v=some i):de x=some i:=by
 cases v with
 | a v=>rw[VS] at hv;subst hv;exact h
 | _=>simp[JR] at h
def BJ{t:TypeId}{v w iv:SV}{x ix:AV}(hv:VS θ ρ v x)(hi:VS θ ρ iv ix)(h:mZ P t v iv=some w):∃y,kT P t x ix=some y/\VS θ ρ w y:=by
 unfold mZ at h;obtain⟨i,hin,h2⟩:=bind_eq_some_iff.1 h;clear h;unfold kT;rw[Ew hi hin,ac]
 cases har:SH P t with
 | some q=>
  rw[har] at h2;simp only at h2;obtain⟨hu,hs⟩:=F2 har;obtain⟨hlt,h⟩:=cu h2;rw[hu];have hlb:blt i q.1=true:=MF hlt
  cases v with
  | ptr o off=>
   simp only at h;cases h;rw[VS] at hv;subst hv;simp only;rw[hs,ac,hlb,ae];exact⟨_,rfl,by rw[VS]⟩
  | ip cs=>
   simp only at h;obtain⟨hk,h⟩:=cu h;cases h;rw[VS] at hv;obtain⟨id,off,row,rfl,_,h2⟩:=LG hv hk;simp only;rw[hs,ac,hlb,ae];exact⟨_,rfl,by rw[VS];exact h2⟩
  | _=>simp at h
 | none=>
  rw[har] at h2;simp only at h2;obtain⟨q,hq,h⟩:=bind_eq_some_iff.1 h2;obtain⟨hu,hs⟩:=gD hq;obtain⟨e,s⟩:=q;simp only at hu hs h;rw[hu]
  cases v with
  | sl n es cs=>
   simp only at h;obtain⟨⟨hlt,hse⟩,h⟩:=cu h;cases h;subst hse;have hlb:blt i n=true:=MF hlt;rw[VS,GS] at hv
   rcases hv with⟨h1,_⟩ | ⟨id,off,cap,row,rfl,h2,h3,h4⟩
   ·omega
   ·simp only;rw[hs,ac,hlb,ad,ap,ae];refine⟨_,rfl,?_⟩
    have hms:i*s+s<=n*s:=by
     have:=bc s (show i+1<=n by omega);rw[dd] at this;exact this
    rw[VS,GS];refine⟨id,off+i*s,row,s,rfl,h2,by omega,?_⟩;have:=(h4.drop (i*s)).take s;rw[b7,bG,b8,bi (by omega)] at this;exact this
  | buf o n es c=>
   simp only at h;obtain⟨⟨hlt,hse⟩,h⟩:=cu h;cases h;subst hse;have hlb:blt i n=true:=MF hlt;rw[VS] at hv;subst hv;simp only;rw[hs,ac,hlb,ad,ap,ae];exact⟨_,rfl,by rw[VS,b6]⟩
  | sub o off n es c=>
   simp only at h;obtain⟨⟨hlt,hse⟩,h⟩:=cu h;cases h;subst hse;have hlb:blt i n=true:=MF hlt;rw[VS] at hv;subst hv;simp only;rw[hs,ac,hlb,ad,ap,ae];exact⟨_,rfl,by rw[VS]⟩
  | _=>simp at h
def M6{t:TypeId}{v w iv:SV}{x ix:AV}(hv:VS θ ρ v x)(hi:VS θ ρ iv ix)(h:Ae P t v iv=some w):∃y,vY P t x ix=some y/\VS θ ρ w y:=by
 unfold Ae at h;obtain⟨i,hin,h2⟩:=bind_eq_some_iff.1 h;clear h;unfold vY;rw[Ew hi hin,ac]
 cases v with
 | ag cs=>
  simp only at h2;obtain⟨q,hq,h⟩:=bind_eq_some_iff.1 h2;obtain⟨hu,hs⟩:=F2 hq;obtain⟨hlt,h⟩:=cu h;rw[hu];rw[VS] at hv;obtain⟨aS,rfl,hv⟩:=hv;simp only;rw[hs,ac,MF hlt,ae];exact uE hv h
 | a v=>
  cases v with
  | str s=>
   simp only at h2
   cases hk:iO P t with
   | str=>
    rw[hk] at h2;simp only at h2;rw[An hk];rw[VS] at hv;subst hv;simp only;obtain⟨b,hb,rfl⟩:=ar h2;rw[hb];exact⟨_,rfl,by rw[VS]⟩
   | _=>rw[hk] at h2;cases h2
  | _=>simp at h2
 | _=>simp at h2
def NR{h:H}{t:TypeId}{v w:SV}{x:AV}{lo hi mx:Option AV}(hv:VS θ ρ v x)(h1:gw P t v lo hi mx=some w):∃y,wD P h t x lo hi mx=some y/\VS θ ρ w y:=by
 unfold gw at h1;unfold wD;split at h1
 ·rename_i s hk;rw[An hk];rw[VS] at hv;subst hv
  cases mx with
  | some _=>cases h1
  | none=>
   simp only at h1 ⊢;obtain⟨b,hb,rfl⟩:=ar h1;rw[hb];exact⟨_,rfl,by rw[VS]⟩
 ·rename_i n es cs hk
  cases mx with
  | some m=>
   simp only at h1;obtain⟨⟨e,s⟩,hq,h1⟩:=bind_eq_some_iff.1 h1;obtain⟨hu,hs⟩:=gD hq;simp only at hu hs h1;rw[hu];obtain⟨⟨rfl,h2,h3,h4⟩,h5⟩:=cu h1;cases h5;subst h4;obtain⟨hv0,rfl,h2⟩:=bind_eq_some_iff.1 h2
   have hb:∀cap,cV n cap none (some hv0) (some m)=some (0,0,some 0):=by
    intro cap;unfold cV;simp only;have h2':de hv0=some 0:=h2
    have hf:qo n cap 0=true:=by unfold qo;rw[eZ (bh n)];rfl
    rw[h3,ac,hf,ae,h2'];rfl
   rw[VS,GS] at hv
   rcases hv with⟨rfl,rfl,o,e',c,rfl,ho,hoe⟩ | ⟨id,off,cap,row,rfl,h6,h7,h8⟩
   ·simp only;rw[hs,ac,hb,ac];simp only
    cases o with
    | none=>exact⟨_,rfl,by rw[VS];exact⟨none,0,rfl,λh=>t7 rfl h⟩⟩
    | some q=>
     obtain⟨id,off⟩:=q;rw[hoe (by simp)];simp only;rw[ad,ae];exact⟨_,rfl,by rw[VS];exact⟨_,_,rfl,λ_=>rfl⟩⟩
   ·simp only;rw[hs,ac,hb,ac];simp only;rw[ad,ae];exact⟨_,rfl,by rw[VS];exact⟨_,_,rfl,λ_=>rfl⟩⟩
  | none=>
   simp only at h1;obtain⟨⟨e,s⟩,hq,h1⟩:=bind_eq_some_iff.1 h1;obtain⟨hu,hs⟩:=gD hq;simp only at hu hs;rw[hu];obtain⟨⟨l,hh,m⟩,hb,h1⟩:=bind_eq_some_iff.1 h1;obtain⟨hse,h1⟩:=cu h1;cases h1;simp only at hse;subst hse
   have hbd:∀cap,(cV n cap lo hi none=some (l,hh,cap))/\l<=hh/\hh<=n:=by
    intro cap;unfold cV at hb ⊢;simp only at hb ⊢;obtain⟨q,hq,hb⟩:=bind_eq_some_iff.1 hb
    have hq2:pa n cap hi=some q/\q<=n:=by
     cases hi with
     | none=>simp only[pa,Option.some.injEq] at hq ⊢;exact⟨hq,by omega⟩
     | some hv=>
      simp only[pa] at hq ⊢;obtain⟨k,hk,hq⟩:=bind_eq_some_iff.1 hq;obtain⟨hf,hq⟩:=aK hq;cases hq;simp only[qo,c0] at hf;rw[hk,ac];unfold qo;rw[hf,ci,ae];exact⟨rfl,js hf⟩
    rw[hq2.1,ac]
    cases lo with
    | none=>simp only[Option.some.injEq,Prod.mk.injEq] at hb ⊢;obtain⟨rfl,rfl,_⟩:=hb;exact⟨by simp,bh _,hq2.2⟩
    | some lv=>
     simp only at hb ⊢;obtain⟨k,hk,hb⟩:=bind_eq_some_iff.1 hb;obtain⟨hf,hb⟩:=aK hb;simp only[Option.some.injEq,Prod.mk.injEq] at hb;obtain⟨rfl,rfl,_⟩:=hb;rw[hk,ac,hf,ae];exact⟨by simp,js hf,hq2.2⟩
   rw[VS,GS] at hv
   rcases hv with⟨rfl,rfl,o,e',c,rfl,ho,hoe⟩ | ⟨id,off,cap,row,rfl,h2,h3,h4⟩
   ·obtain⟨b1,b2,b3⟩:=hbd c
    have hl0:l=0:=by omega
    have hh0:hh=0:=by omega
    subst hl0;subst hh0;simp only;rw[hs,ac,b1,ac];simp only
    cases o with
    | none=>
     exact⟨_,rfl,by rw[VS,GS];exact .inl ⟨rfl,by simp,none,0,some 0,rfl,λ_=>rfl,λh=>t7 rfl h⟩⟩
    | some q=>
     obtain⟨id,off⟩:=q;rw[hoe (by simp)];simp only;rw[ad,ae];exact⟨_,rfl,by rw[VS,GS];exact .inl ⟨rfl,by simp,_,_,_,rfl,λh=>(by cases h),λ_=>rfl⟩⟩
   ·obtain⟨b1,b2,b3⟩:=hbd cap;simp only;rw[hs,ac,b1,ac];simp only;rw[ad,ae];refine⟨_,rfl,?_⟩;rw[VS,GS];have m1:l*s<=hh*s:=bc s b2;have m2:hh*s<=n*s:=bc s b3;refine .inr ⟨id,off+l*s,aN cap l,row,rfl,h2,by rw[Nat.sub_mul];omega,?_⟩;have:=(h4.drop (l*s)).take ((hh-l)*s);rw[b7,bG,b8,bi (by rw[Nat.sub_mul];omega)] at this;exact this
 ·rename_i o n es c hk
  cases mx with
  | some _=>cases h1
  | none=>
   simp only at h1;obtain⟨⟨e,s⟩,hq,h1⟩:=bind_eq_some_iff.1 h1;obtain⟨hu,hs⟩:=gD hq;simp only at hu hs;rw[hu];obtain⟨⟨l,hh,m⟩,hb,h1⟩:=bind_eq_some_iff.1 h1;obtain⟨hse,h1⟩:=cu h1;cases h1;simp only at hse;subst hse;rw[VS] at hv;subst hv;simp only;rw[hs,ac,hb,ac];simp only;rw[ad,ae]
   cases lo with
   | none=>
    have hl0:l=0:=by
     unfold cV at hb;simp only at hb;obtain⟨q,hq,hb⟩:=bind_eq_some_iff.1 hb;simp only[Option.some.injEq,Prod.mk.injEq] at hb;exact hb.1.symm
    subst hl0;exact⟨_,rfl,by rw[VS,bx]⟩
   | some _=>exact⟨_,rfl,by rw[VS,b6]⟩
 ·rename_i o off n es c hk
  cases mx with
  | some _=>cases h1
  | none=>
   simp only at h1;obtain⟨⟨e,s⟩,hq,h1⟩:=bind_eq_some_iff.1 h1;obtain⟨hu,hs⟩:=gD hq;simp only at hu hs;rw[hu];obtain⟨⟨l,hh,m⟩,hb,h1⟩:=bind_eq_some_iff.1 h1;obtain⟨hse,h1⟩:=cu h1;cases h1;simp only at hse;subst hse;rw[VS] at hv;subst hv;simp only;rw[hs,ac,hb,ac];simp only;rw[ad,ae];exact⟨_,rfl,by rw[VS]⟩
 ·rename_i hk;obtain⟨⟨e,s⟩,hq,h1⟩:=bind_eq_some_iff.1 h1;obtain⟨hu,hs⟩:=gD hq;simp only at hu hs;rw[hu];obtain⟨⟨l,hh,m⟩,hb,rfl⟩:=ar h1;rw[VS] at hv;subst hv;simp only;rw[hs,ac,hb,ac];exact⟨_,rfl,by rw[VS]⟩
 ·rename_i e0 hk;obtain⟨⟨e,s⟩,hq,h1⟩:=bind_eq_some_iff.1 h1;obtain⟨hu,hs⟩:=gD hq;simp only at hu hs;rw[hu];obtain⟨⟨l,hh,m⟩,hb,h1⟩:=bind_eq_some_iff.1 h1;obtain⟨⟨hl0,hh0,hm0,hse⟩,h5⟩:=cu h1;clear h1;cases h5;simp only at hse;subst hl0;subst hh0;subst hm0;subst hse;rw[VS] at hv;obtain⟨o,e',rfl,hoe⟩:=hv;simp only;rw[hs,ac,hb,ac];simp only
  cases o with
  | none=>exact⟨_,rfl,by rw[VS];exact⟨none,0,rfl,λh=>t7 rfl h⟩⟩
  | some q=>
   obtain⟨id,off⟩:=q;rw[hoe (by simp)];simp only;rw[ad,ae];exact⟨_,rfl,by rw[VS];exact⟨_,_,rfl,λ_=>rfl⟩⟩
 ·cases h1
end
section
variable {θ θ':Nat->Loc} {ρ ρ0:kq} {P:Program}
def Ly{h0:En}{h:H}{S:List SO}(hR:RS θ ρ0 ρ h0 h S){v:SV}{x:AV}(hv:VS θ ρ v x){e:List AV×List SV}(he:sY S v=some e):
 (x=.map none/\e=([],[]))\/∃id l c,x=.map (some id)/\h.mapOf id=some (l,c)/\l.map (·.1)=e.1/\cZ θ ρ e.2 (l.map (·.2.1)):=by
 unfold sY at he;split at he
 ·rename_i o;rw[VS] at hv;subst hv;split at he
  ·rename_i ks vs b hS;cases he;obtain⟨_,l,c,q1,⟨q2,_⟩,q3⟩:=hR.obj o _ hS (λh=>by cases h);exact .inr ⟨_,l,c,rfl,by unfold H.mapOf;rw[q1],q2,q3⟩
  ·cases he
 ·cases he;rw[VS,GS] at hv;obtain⟨id,l,c,rfl,h2,h3,h4⟩:=hv;exact .inr ⟨id,l,c,rfl,by unfold H.mapOf;rw[(hR.row id _ h2).2.1],h3.1,h4.vs⟩
 ·cases he;rw[VS] at hv;subst hv;exact .inl ⟨rfl,rfl⟩
 ·cases he
def JG{h0:En}{h:H}{S:List SO}(hR:RS θ ρ0 ρ h0 h S){t:TypeId}{v k w:SV}{x y:AV}{ok:Bool}(hv:VS θ ρ v x)(hk:VS θ ρ k y)(hl:ec P S t v k ok=some w):∃z,rW P h t x y ok=some z/\VS θ ρ w z:=by
 unfold ec at hl;obtain⟨⟨kt,et⟩,hm,hl⟩:=bind_eq_some_iff.1 hl;obtain⟨ka,hka,hl⟩:=bind_eq_some_iff.1 hl;have:=ib hk hka;subst this;obtain⟨hkey,hl⟩:=aK hl;obtain⟨⟨ks,vs⟩,hent,hl⟩:=bind_eq_some_iff.1 hl;obtain⟨r,hf,hl⟩:=bind_eq_some_iff.1 hl;obtain⟨⟨u,b⟩,hu,rfl⟩:=ar hl;unfold rW;rw[hm,ac];simp only;rw[hkey,ae]
 have fin:∀z:AV,VS θ ρ u z->VS θ ρ (cond ok (.bC [u,.a (.bool b)]) u) (cond ok (.bC [z,.bool b]) z):=by
  intro z hz;cases ok
  ·exact hz
  ·rw[ae,ae,VS];refine⟨_,rfl,?_⟩;rw[aJ];refine⟨z,_,rfl,hz,?_⟩;rw[aJ];exact⟨_,[],rfl,by rw[VS],by rw[aT]⟩
 rcases Ly hR hv hent with⟨rfl,he⟩ | ⟨id,l,c,rfl,h1,h2,h3⟩
 ·cases he;simp only[qP,Option.some.injEq] at hf;subst hf;obtain⟨z,hz,hu⟩:=ar hu;cases hu;simp only[ac,hY,hz,aj];exact⟨_,rfl,fin _ (A7 z)⟩
 ·simp only at h2 h3 hf;simp only[h1,aj,ac];rw[oY,h2,hf,ac]
  cases r with
  | none=>
   obtain⟨z,hz,hu⟩:=ar hu;cases hu;simp only[hz,aj];exact⟨_,rfl,fin _ (A7 z)⟩
  | some i=>
   obtain⟨e,he,hu⟩:=ar hu;cases hu;obtain⟨z,hz,kz⟩:=h3.get he;rw[a7] at hz;obtain⟨e3,he3,rfl⟩:=ar hz;simp only[he3,aj];exact⟨_,rfl,fin _ kz⟩
def iI{α:Type}(g:AV×AV×Nat->α)(x:AV×AV×Nat):∀(l:List (AV×AV×Nat)) (i:Nat),(setAt x l i).map g=(l.map g).set i (g x)
 | [],i=>by cases i<;>rfl
 | e::l,0=>rfl
 | e::l,i+1=>by
  rw[setAt,a0,a0,List.set_cons_succ,iI g x l i]
def oD.snoc{l:List (AV×AV×Nat)}{c:Nat}(h:oD l c)(k v:AV):oD (l++[(k,v,c)]) (c+1):=by
 refine⟨?_,λe he=>?_⟩
 ·rw[bt,List.nodup_append];refine⟨h.1,by simp,?_⟩;intro a ha b hb;obtain⟨e,he,rfl⟩:=mem_map.1 ha;simp only[a0,bv,List.mem_singleton] at hb;subst hb;exact Nat.ne_of_lt (h.2 e he)
 ·rcases List.mem_append.1 he with he | he
  ·exact Nat.lt_succ_of_lt (h.2 e he)
  ·rw[List.mem_singleton.1 he];exact bw _
def oD.ED{l l':List (AV×AV×Nat)}{c:Nat}(h:oD l c)(hb:l'.map (·.2.2)=l.map (·.2.2)):oD l' c:=by
 refine⟨by rw[hb];exact h.1,λe he=>?_⟩;have:e.2.2∈l'.map (·.2.2):=List.mem_map_of_mem he;rw[hb] at this;obtain⟨e',he',q⟩:=mem_map.1 this;rw[<-q];exact h.2 e' he'
def Av{h0:En}{h:H}{S S':List SO}(hR:RS θ ρ0 ρ h0 h S){t:TypeId}{v k w:SV}{x y z:AV}(hv:VS θ ρ v x)(hk:VS θ ρ k y)(hw:VS θ ρ w z)(hl:fD P S t v k w=some S'):∃h',kY P h t x y z=some h'/\RS θ ρ0 ρ h0 h' S':=by
 unfold fD at hl;obtain⟨⟨kt,et⟩,hm,hl⟩:=bind_eq_some_iff.1 hl;obtain⟨ka,hka,hl⟩:=bind_eq_some_iff.1 hl;have:=ib hk hka;subst this;obtain⟨hkey,hl⟩:=aK hl;unfold kY;rw[hm,ac];simp only;rw[hkey,ae]
 cases v with
 | map o=>
  rw[VS] at hv;subst hv;simp only at hl ⊢;split at hl
  ·rename_i ks vs b hS;obtain⟨_,l,c,q1,⟨q2,qb,qp⟩,q3⟩:=hR.obj o _ hS (λh=>by cases h)
   have hmo:h.mapOf (θ o).id=some (l,c):=by unfold H.mapOf;rw[q1]
   obtain⟨r,hf,hl⟩:=bind_eq_some_iff.1 hl;rw[hmo,ac];simp only;rw[oY,q2,hf,ac]
   cases r with
   | none=>
    simp only at hl ⊢;cases hl;refine⟨_,rfl,hR.Nq hS ?_ ?_⟩
    ·refine⟨by rw[bt,q2];rfl,qb.snoc _ _,λp hp=>?_⟩;obtain⟨p0,hp0,rfl⟩:=ar hp;obtain⟨e1,e2⟩:=qp p0 hp0;exact⟨by rw[bt,e1,e2];rfl,by rw[e2]⟩
    ·rw[bt];refine q3.app ?_;rw[a0,bv,aJ];exact⟨_,[],rfl,hw,by rw[aT]⟩
   | some i=>
    simp only at hl ⊢;obtain⟨k0,hk0,hl⟩:=bind_eq_some_iff.1 hl;obtain⟨hst,hl⟩:=aK hl;cases hl;rw[<-q2,a7] at hk0;obtain⟨e3,he3,rfl⟩:=ar hk0;rw[he3,ac,hst,ae];refine⟨_,rfl,hR.Nq hS ?_ ?_⟩
    ·have hb:(setAt (y,z,e3.2.2) l i).map (·.2.2)=l.map (·.2.2):=by
      rw[iI];apply List.ext_getElem?;intro j;rw[List.getElem?_set];split
      ·rename_i e;subst e;split
       ·rw[a7,he3];rfl
       ·rename_i hl;rw[a8] at hl;rw[bb (by rw[a8];omega)]
      ·rfl
     exact⟨by rw[iI,q2],qb.ED hb,λp hp=>by rw[hb];exact qp p hp⟩
    ·rw[iI];exact q3.set i hw
  ·cases hl
 | _=>simp at hl
def cZ.erase:∀{ds:List SV} {aS:List AV} (i:Nat),cZ θ ρ ds aS->cZ θ ρ (ds.eraseIdx i) (aS.eraseIdx i)
 | [],aS,i,h=>by rw[aT] at h;subst h;rw[cn,cn,aT]
 | d::ds,aS,i,h=>by
  rw[aJ] at h;obtain⟨a,r,rfl,h1,h2⟩:=h
  cases i with
  | zero=>exact h2
  | succ i=>rw[a6,a6,aJ];exact⟨a,_,rfl,h1,cZ.erase i h2⟩
def fq{α β:Type}(g:α->β):∀(l:List α) (i:Nat),(l.eraseIdx i).map g=(l.map g).eraseIdx i
 | [],i=>by simp
 | a::l,0=>rfl
 | a::l,i+1=>by rw[a6,a0,a0,a6,fq g l i]
def Rs{h0:En}{h:H}{S S':List SO}(hR:RS θ ρ0 ρ h0 h S){t:TypeId}{v k:SV}{x y:AV}(hv:VS θ ρ v x)(hk:VS θ ρ k y)(hl:MP P S t v k=some S'):∃h',tP P h t x y=some (.bC [],h')/\RS θ ρ0 ρ h0 h' S':=by
 unfold MP at hl;obtain⟨⟨kt,et⟩,hm,hl⟩:=bind_eq_some_iff.1 hl;obtain⟨ka,hka,hl⟩:=bind_eq_some_iff.1 hl;have:=ib hk hka;subst this;obtain⟨hkey,hl⟩:=aK hl;unfold tP;rw[hm,ac];simp only;rw[hkey,ae]
 cases v with
 | map o=>
  rw[VS] at hv;subst hv;simp only at hl ⊢;split at hl
  ·rename_i ks vs b hS;obtain⟨_,l,c,q1,⟨q2,qb,qp⟩,q3⟩:=hR.obj o _ hS (λh=>by cases h)
   have hmo:h.mapOf (θ o).id=some (l,c):=by unfold H.mapOf;rw[q1]
   obtain⟨r,hf,rfl⟩:=ar hl;rw[hmo,ac];simp only;rw[oY,q2,hf,aj]
   cases r with
   | none=>exact⟨_,rfl,hR⟩
   | some i=>
    refine⟨_,rfl,hR.Nq hS ?_ ?_⟩
    ·refine⟨by rw[fq,q2],⟨by rw[fq];exact qb.1.sublist (List.eraseIdx_sublist _ _),λe he=>qb.2 e (List.mem_of_mem_eraseIdx he)⟩,λp hp=>?_⟩;obtain⟨p0,hp0,rfl⟩:=ar hp;obtain⟨e1,e2⟩:=qp p0 hp0;exact⟨by rw[fq,e1],e2⟩
    ·rw[fq];exact q3.erase i
  ·cases hl
 | _=>simp at hl
def RH{h0:En}{h:H}{S:List SO}(hR:RS θ ρ0 ρ h0 h S){t:TypeId}{v:SV}{x:AV}{n:Nat}(hv:VS θ ρ v x)(hl:qw P S t v=some n):G2 P h t x=some (.int .i64 (n:Int)):=by
 unfold qw at hl;unfold G2;split at hl
 ·rename_i s hk;rw[An hk];rw[VS] at hv;subst hv;cases hl;rfl
 ·rename_i n' _ cs hk;obtain⟨e,hu⟩:=pY hk;rw[hu];rw[VS,GS] at hv;cases hl
  rcases hv with⟨rfl,_,o,e',c,rfl,_,_⟩ | ⟨id,off,cap,row,rfl,_⟩<;>rfl
 ·rename_i o n' _ c hk;obtain⟨e,hu⟩:=pY hk;rw[hu];rw[VS] at hv;subst hv;cases hl;rfl
 ·rename_i n' _ c hk;obtain⟨e,hu⟩:=pY hk;rw[hu];rw[VS] at hv;subst hv;cases hl;rfl
 ·rename_i hk;obtain⟨kt,et,hu⟩:=Pu hk;rw[hu];obtain⟨e,he,rfl⟩:=ar hl
  rcases Ly hR hv he with⟨rfl,rfl⟩ | ⟨id,l,c,rfl,h1,h2,h3⟩
  ·rfl
  ·simp only[h1,aj,<-h2,a8];rfl
 ·rename_i o off n' _ c hk;obtain⟨e,hu⟩:=pY hk;rw[hu];rw[VS] at hv;subst hv;cases hl;rfl
 ·rename_i e hk;obtain⟨e,hu⟩:=pY hk;rw[hu];rw[VS] at hv;obtain⟨o,e',rfl,_⟩:=hv;cases hl;rfl
 ·cases hl
def HN{h0:En}{h:H}{S:List SO}(hR:RS θ ρ0 ρ h0 h S){s m:Nat}{v:SV}{x:AV}{new:List SV}(hv:VS θ ρ v x)(hl:ot S s v=some (m,new)):
 ∃o es c xs,x=.slice o m es c/\(beq es s||beq m 0)=true/\cG h o m s=some xs/\cZ θ ρ new xs:=by
 unfold ot at hl;split at hl
 ·rename_i n e cs;obtain⟨hb,hl⟩:=cu hl;cases hl;subst hb;rw[VS,GS] at hv
  rcases hv with⟨rfl,rfl,o,e',c,rfl,_,_⟩ | ⟨id,off,cap,row,rfl,h2,h3,h4⟩
  ·refine⟨o,e',c,[],rfl,by simp,?_,by rw[aT]⟩;unfold cG
   cases o with
   | none=>rfl
   | some q=>rfl
  ·refine⟨_,e,cap,(row.drop off).take (m*e),rfl,by rw[ad,ci],?_,h4.vs⟩;unfold cG;simp only;cases hm:beq m 0
   ·rw[ai,mG,HM hR h2];simp only[ac,lQ];rw[eZ h3,ae]
   ·have:=cU hm;subst this;rw[ae,bx,b9]
 ·rename_i o n e c;split at hl
  ·rename_i cs hS;obtain⟨⟨hes,hle⟩,hl⟩:=cu hl;cases hl;subst hes;rw[VS] at hv;subst hv;obtain⟨_,aS,q1,q2,_⟩:=hR.obj o _ hS (λh=>by cases h);refine⟨_,e,c,aS.take (m*e),rfl,by rw[ad,ci],?_,q2.take _⟩;unfold cG;simp only;cases hm:beq m 0
   ·rw[ai,mG];unfold sy;rw[q1];simp only[ac,lQ];show lQ aS 0 (m*e)=_;unfold lQ;rw[eZ (show 0+m*e<=aS.length by rw[q2.length];omega),ae,bZ]
   ·have:=cU hm;subst this;rw[ae,bx,b9]
  ·cases hl
 ·cases hl;rw[VS] at hv;subst hv;exact⟨none,0,some 0,[],rfl,by simp,rfl,by rw[aT]⟩
 ·rename_i o off n e c;split at hl
  ·rename_i cs hS;obtain⟨⟨hes,hle⟩,hl⟩:=cu hl;cases hl;subst hes;rw[VS] at hv;subst hv;obtain⟨_,aS,q1,q2,_⟩:=hR.obj o _ hS (λh=>by cases h);refine⟨_,e,c,(aS.drop off).take (m*e),rfl,by rw[ad,ci],?_,(q2.drop off).take _⟩;unfold cG;simp only;cases hm:beq m 0
   ·rw[ai,mG];unfold sy;rw[q1];simp only[ac,lQ];show lQ aS off (m*e)=_;unfold lQ;rw[eZ (show off+m*e<=aS.length by rw[q2.length];omega),ae]
   ·have:=cU hm;subst this;rw[ae,bx,b9]
  ·cases hl
 ·cases hl;rw[VS] at hv;obtain⟨o,e',rfl,_⟩:=hv;refine⟨o,e',some 0,[],rfl,by simp,?_,by rw[aT]⟩;unfold cG
  cases o with
  | none=>rfl
  | some q=>rfl
 ·cases hl
def Hg{a b:Nat}(h:a≠b):beq a b=false:=by
 cases hb:beq a b
 ·rfl
 ·exact t7 (cU hb) h
def JS{h0:En}{h:H}{S:List SO}(hR:RS θ ρ0 ρ h0 h S){xt e:TypeId}{s m:Nat}{z:AV}{w:SV}{y:AV}{new:List SV}(hz:dm P e=some z)(hzl:z.cells.length=s)(hw:VS θ ρ w y)(hl:uy P S xt s z w=some (m,new)):
 ∃xs,mF P h e s xt y=some (m,xs)/\cZ θ ρ new xs:=by
 unfold uy at hl;unfold mF;split at hl
 ·rename_i hk;obtain⟨e',hux⟩:=pY hk;obtain⟨o,es,c,xs,rfl,k1,k2,k3⟩:=HN hR hw hl;rw[hux];simp only;rw[k1,ae,k2];exact⟨xs,rfl,k3⟩
 ·obtain⟨hi,hl⟩:=aK hl;obtain⟨n,hn,hl⟩:=bind_eq_some_iff.1 hl;obtain⟨hb,hl⟩:=cu hl;cases hl;unfold isInt at hi;split at hi
  ·rename_i kk hu;rw[hu];simp only;rw[Ew hw hn,ac,hz,ac,eZ hb,hzl,ad,ap,ae];exact⟨_,rfl,cZ.a _⟩
  ·cases hi
 ·cases hl
def Jc{h0:En}{h:H}{S S':List SO}(hR:RS θ ρ0 ρ h0 h S){st xt:TypeId}{v w r:SV}{x y:AV}{kill:Option Nat}(hv:VS θ ρ v x)(hw:VS θ ρ w y)(hl:tJ P S st xt v w=some (r,S',kill)):
 ∃z h' θ',tI P h st xt x y=some (z,h')/\RS θ' ρ0 ρ h0 h' S'/\VS θ' ρ r z/\∀v x,VS θ ρ v x->VS θ' ρ (jY kill v) x:=by
 unfold tJ at hl;have hl2:=bind_eq_some_iff.1 hl;clear hl;obtain⟨⟨e,s⟩,hel,hl⟩:=hl2;obtain⟨hu,hs⟩:=gD hel;simp only at hu hs hl;obtain⟨i,hi,rfl⟩:=ar hs;have hl2:=bind_eq_some_iff.1 hl;clear hl;obtain⟨z,hz,hl⟩:=hl2;have hl2:=cu hl;clear hl;obtain⟨⟨b1,b2,b3⟩,hl⟩:=hl2;have hl2:=bind_eq_some_iff.1 hl;clear hl;obtain⟨⟨m,new⟩,hrow,hl⟩:=hl2;unfold pP at b3;rw[hi] at b3;simp only at b3 hl;have b2':=Hg b2;obtain⟨xs,happ,k3⟩:=JS hR hz b1 hw hrow;unfold tI;rw[hu];by_cases hm:m=0
 ·rw[t8 hm] at hl
  have hmb:beq m 0=true:=by rw[hm];rfl
  unfold FY at hl;split at hl
  ·cases hl;have hv':=hv;rw[VS] at hv;subst hv;simp only[hi,hz,ac,b1,b2',b3,ad,eZ (show 0<=1000000 by omega),a4,ap,ae,happ,hmb];exact⟨_,_,θ,rfl,hR,hv',λv x h=>h⟩
  ·obtain⟨hn,hl⟩:=cu hl;cases hl;have hv':=hv;rw[VS] at hv;subst hv;simp only[hi,hz,ac,b1,b2',b3,ad,eZ hn,a4,ap,ae,happ,hmb];exact⟨_,_,θ,rfl,hR,hv',λv x h=>h⟩
  ·cases hl;have hv':=hv;rw[VS] at hv;obtain⟨o',e',rfl,_⟩:=hv;simp only[hi,hz,ac,b1,b2',b3,ad,eZ (show 0<=1000000 by omega),a4,ap,ae,happ,hmb];exact⟨_,_,θ,rfl,hR,hv',λv x h=>h⟩
  ·cases hl
 ·rw[ul hm] at hl;have hmb:=Hg hm;have hl2:=cu hl;clear hl;obtain⟨⟨b4,b5⟩,hl⟩:=hl2;have hone:=mE k3 b5;unfold BB at hl;split at hl
  ·rw[VS] at hv;subst hv;cases hl;obtain⟨n1,n2⟩:=hR.new (so:=.cells new) (ob:=.cells xs h.next) (.inl ⟨new,xs,rfl,rfl,k3⟩);simp only[hi,hz,ac,b1,b2',b3,ad,eZ (show 0<=1000000 by omega),a4,ap,ae,happ,hmb,ai,eZ b4,H.nf];refine⟨_,_,_,rfl,n1,?_,n2⟩;rw[VS,cz]
  ·rename_i o' n es';rw[VS] at hv;subst hv;split at hl
   ·rename_i cs hS;obtain⟨⟨c1,c2,c3⟩,hl2⟩:=cu hl;cases hl2;subst c1;obtain⟨_,aS,q1,q2,q3⟩:=hR.obj o' _ hS (λh=>by cases h);obtain⟨f1,f2,f3⟩:=hR.fork hS k3 q1 c3
    have hle:ble (n*i.size) aS.length=true:=by rw[q2.length];exact eZ c3
    simp only[hi,hz,ac,b1,b2',b3,eZ c2,a4,ap,ae,happ,hmb,ai,eZ b4,ad,q1,hle,hone,b6];refine⟨_,_,_,rfl,f2,?_,f3⟩;rw[VS,cz,f1]
   ·cases hl
  ·rename_i e';obtain⟨c1,hl2⟩:=cu hl;cases hl2;rw[VS] at hv;obtain⟨o',e'',rfl,ho'⟩:=hv;obtain⟨n1,n2⟩:=hR.new (so:=.cells new) (ob:=.cells xs h.next) (.inl ⟨new,xs,rfl,rfl,k3⟩)
   cases o' with
   | none=>
    simp only[hi,hz,ac,b1,b2',b3,ad,eZ (show 0<=1000000 by omega),a4,ap,ae,happ,hmb,ai,eZ b4,H.nf];refine⟨_,_,_,rfl,n1,?_,n2⟩;rw[VS,cz]
   | some q=>
    have:=ho' (by simp);subst this;subst c1;obtain⟨id,off⟩:=q
    have hnl:ble (0+m) 0=false:=by
     cases hb:ble (0+m) 0
     ·rfl
     ·have:=ba hb;omega
    have hsc:cG h (some (id,off)) 0 i.size=some []:=rfl;simp only[hi,hz,ac,b1,b2',b3,ad,eZ (show 0<=1000000 by omega),a4,ap,ae,happ,hmb,ai,eZ b4,H.nf,hnl,hsc,aj,ct];refine⟨_,_,_,rfl,n1,?_,n2⟩;rw[VS,cz,b6]
  ·rename_i o' n es' c';rw[VS] at hv;subst hv;split at hl
   ·rename_i cs hS;obtain⟨⟨c1,c2,c3,c4⟩,hl2⟩:=cu hl;cases hl2;subst c1;obtain⟨_,aS,q1,q2,q3⟩:=hR.obj o' _ hS (λh=>by cases h);obtain⟨n1,n2⟩:=hR.new (so:=.cells (cs.take (n*i.size)++new)) (ob:=.cells (aS.take (n*i.size)++xs) h.next) (.inl ⟨_,_,rfl,rfl,(q2.take _).app k3⟩)
    have hnl:ble (n+m) c'=false:=by
     cases hb:ble (n+m) c'
     ·rfl
     ·have:=ba hb;omega
    have hsc:cG h (some ((θ o').id,0)) n i.size=some (aS.take (n*i.size)):=by
     unfold cG;simp only;cases hm:beq n 0
     ·rw[ai,mG];unfold sy;rw[q1];simp only[ac];show lQ aS 0 (n*i.size)=_;unfold lQ;rw[eZ (show 0+n*i.size<=aS.length by rw[q2.length];omega),ae,bZ]
     ·have:=cU hm;subst this;rw[ae,bx,b9]
    simp only[hi,hz,ac,b1,b2',b3,eZ c2,a4,ap,ae,happ,hmb,ai,eZ b4,ad,hnl,hsc,aj,H.nf];refine⟨_,_,_,rfl,n1,?_,n2⟩;rw[VS,cz]
   ·cases hl
  ·cases hl
def Rk{x:SV}{a:AV}{c:Nat}(hv:VS θ ρ x a)(hc:y8 x=some c):∃o n e,a=.slice o n e (some c):=by
 unfold y8 at hc;split at hc
 ·cases hc;rw[VS] at hv;exact⟨_,_,_,hv⟩
 ·cases hc;rw[VS] at hv;exact⟨_,_,_,hv⟩
 ·cases hc;rw[VS] at hv;exact⟨_,_,_,hv⟩
 ·cases hc;rw[VS] at hv;obtain⟨o,e',rfl,_⟩:=hv;exact⟨_,_,_,rfl⟩
 ·cases hc
def OH{x:SV}{a:AV}{o off n e:Nat}(hv:VS θ ρ x a)(hc:SJ x=some (o,off,n,e)):∃c,a=.slice (some ((θ o).id,off)) n e c:=by
 unfold SJ at hc;split at hc
 ·cases hc;rw[VS] at hv;exact⟨_,hv⟩
 ·cases hc;rw[VS] at hv;exact⟨_,hv⟩
 ·cases hc
def OX{h0:En}{h:H}{S S':List SO}(hR:RS θ ρ0 ρ h0 h S){t:TypeId}{v w r:SV}{x y:AV}{kill:Option Nat}(hv:VS θ ρ v x)(hw:VS θ ρ w y)(hl:Gs P S t v w=some (r,S',kill)):
 ∃z h' θ',Gr P h t x y=some (z,h')/\RS θ' ρ0 ρ h0 h' S'/\VS θ' ρ r z/\∀v x,VS θ ρ v x->VS θ' ρ (jY kill v) x:=by
 unfold Gs at hl;obtain⟨⟨e,s⟩,hel,hl⟩:=bind_eq_some_iff.1 hl;obtain⟨hu,hs⟩:=gD hel;obtain⟨⟨o,off,dl,des⟩,hat,hl⟩:=bind_eq_some_iff.1 hl;obtain⟨⟨m,new⟩,hrow,hl⟩:=bind_eq_some_iff.1 hl;obtain⟨cap,rfl⟩:=OH hv hat;obtain⟨o',es,c,xs,rfl,k1,k2,k3⟩:=HN hR hw hrow;simp only at hl hu hs hrow k2;unfold Gr;rw[hu];simp only;rw[hs,ac];unfold Lu at hl;by_cases hn:Nat.min m dl=0
 ·rw[t8 hn] at hl;cases hl;rw[hn];exact⟨_,_,θ,rfl,hR,by rw[VS],λv x h=>h⟩
 ·rw[ul hn] at hl;split at hl
  ·rename_i cs hS;obtain⟨⟨c1,c2,c3,c4⟩,hl2⟩:=cu hl;cases hl2;subst c1;have hm:m≠0:=λe=>hn (by rw[e];exact Nat.zero_min _)
   have hes:es=des:=by
    rw[Hg hm,c0] at k1;exact cU k1
   subst hes;have hmn:Nat.min m dl<=m:=Nat.min_le_left _ _;generalize Nat.min m dl=n at *
   obtain⟨id,off',row,rfl,hch⟩:∃id off' row,o'=some (id,off')/\sy h.aU id=some row/\off'+m*es<=row.length/\xs=(row.drop off').take (m*es):=by
    unfold cG at k2
    cases o' with
    | none=>simp[Hg hm] at k2
    | some q=>
     obtain⟨id,off'⟩:=q;simp only[Hg hm,ai,mG] at k2;obtain⟨row,hr,k2⟩:=bind_eq_some_iff.1 k2;unfold lQ at k2;obtain⟨hb,k2⟩:=aK k2;exact⟨id,off',row,rfl,hr,ba hb,by cases k2;rfl⟩
   have hle:n*es<=m*es:=bc _ hmn
   have hsc:cG h (some (id,off')) n es=some (xs.take (n*es)):=by
    unfold cG;simp only[Hg hn,ai,mG,hch.1,ac];unfold lQ;rw[eZ (show off'+n*es<=row.length by omega),ae,hch.2.2,b8,bi hle]
   have hl1:(new.take (n*es)).length=n*es:=by rw[ce,bi c3]
   obtain⟨h',e1,e2,e3⟩:=hR.store (off:=off) hS (k3.take (n*es)) (mE (k3.take _) c4) (by rw[hl1];exact c2);refine⟨_,h',_,?_,by rw[hl1] at e2;exact e2,by rw[VS],e3⟩;rw[Hg hn,ai,ad,ap,ae,hsc,ac];simp only[e1,aj];rfl
  ·cases hl
def MK{h0:En}{h:H}{S S':List SO}(hR:RS θ ρ0 ρ h0 h S){t:TypeId}{v r:SV}{x:AV}{kill:Option Nat}(hv:VS θ ρ v x)(hl:ze P S t v=some (r,S',kill)):
 ∃z h' θ',zb P h t x=some (z,h')/\RS θ' ρ0 ρ h0 h' S'/\VS θ' ρ r z/\∀v x,VS θ ρ v x->VS θ' ρ (jY kill v) x:=by
 unfold ze at hl;obtain⟨⟨e,s⟩,hel,hl⟩:=bind_eq_some_iff.1 hl;obtain⟨hu,hs⟩:=gD hel;obtain⟨z,hz,hl⟩:=bind_eq_some_iff.1 hl;obtain⟨⟨o,off,n,es⟩,hat,hl⟩:=bind_eq_some_iff.1 hl;obtain⟨cap,rfl⟩:=OH hv hat;simp only at hl hu hs hz;unfold zb;rw[hu];simp only;rw[hs,ac,hz,ac];by_cases hn:n=0
 ·rw[t8 hn] at hl;cases hl;subst hn;exact⟨_,_,θ,rfl,hR,by rw[VS];rfl,λv x h=>h⟩
 ·rw[ul hn] at hl;split at hl
  ·rename_i cs hS;obtain⟨⟨c1,c2,c3,c4⟩,hl2⟩:=cu hl;cases hl2;subst c1
   have hl1:((rep z.cells n).map SV.a).length=n*es:=by
    rw[a8,gq,c2]
   obtain⟨h',e1,e2,e3⟩:=hR.store (off:=off) hS (cZ.a (rep z.cells n)) c4 (by rw[hl1];exact c3);refine⟨_,h',_,?_,by rw[hl1] at e2;exact e2,by rw[VS],e3⟩;rw[Hg hn,ai,ad,c2,ad,ap,ae];simp only[e1,aj];rfl
  ·cases hl
def Gh{h0:En}{h:H}{S S':List SO}(hR:RS θ ρ0 ρ h0 h S){b:Builtin}{ats:List TypeId}{vs:List SV}{xs:List AV}{r:SV}{kill:Option Nat}(hv:cZ θ ρ vs xs)(hl:dK P S b ats vs=some (r,S',kill)):
 ∃z h' θ',mQ P h b ats xs=some (z,h')/\RS θ' ρ0 ρ h0 h' S'/\VS θ' ρ r z/\∀v x,VS θ ρ v x->VS θ' ρ (jY kill v) x:=by
 unfold dK at hl;split at hl
 ·rename_i st xt l x y;rw[aJ] at hv;obtain⟨a,r1,rfl,h1,hv⟩:=hv;rw[aJ] at hv;obtain⟨a2,r2,rfl,h2,hv⟩:=hv;rw[aT] at hv;subst hv;have:=Jc hR h1 h2 hl;exact this
 ·rename_i t l x xs';rw[aJ] at hv;obtain⟨a,r1,rfl,h1,hv⟩:=hv;obtain⟨n,hn,hl⟩:=ar hl;cases hl;have:=RH hR h1 hn;refine⟨.int .i64 (n:Int),h,θ,?_,hR,?_,λv x h=>h⟩
  ·show(G2 P h t a).map (λv=>(v,h))=_;rw[this];rfl
  ·rw[VS]
 ·rename_i x l;rw[aJ] at hv;obtain⟨a,r1,rfl,h1,hv⟩:=hv;obtain⟨n,hn,hl⟩:=ar hl;cases hl;obtain⟨z,hz,kz⟩:=Et h1 hv hn;refine⟨z,h,θ,?_,hR,kz,λv x h=>h⟩;unfold mQ;split<;>simp_all
 ·rename_i x l;rw[aJ] at hv;obtain⟨a,r1,rfl,h1,hv⟩:=hv;obtain⟨n,hn,hl⟩:=ar hl;cases hl;obtain⟨z,hz,kz⟩:=Et h1 hv hn;refine⟨z,h,θ,?_,hR,kz,λv x h=>h⟩;unfold mQ;split<;>simp_all
 ·rename_i t l x k l';rw[aJ] at hv;obtain⟨a,r1,rfl,h1,hv⟩:=hv;rw[aJ] at hv;obtain⟨a2,r2,rfl,h2,hv⟩:=hv;obtain⟨S2,hS2,hl⟩:=ar hl;cases hl;obtain⟨h',e1,e2⟩:=Rs hR h1 h2 hS2;exact⟨_,h',θ,e1,e2,by rw[VS];rfl,λv x h=>h⟩
 ·rename_i dt l x y;rw[aJ] at hv;obtain⟨a,r1,rfl,h1,hv⟩:=hv;rw[aJ] at hv;obtain⟨a2,r2,rfl,h2,hv⟩:=hv;rw[aT] at hv;subst hv;exact OX hR h1 h2 hl
 ·rename_i t l x;rw[aJ] at hv;obtain⟨a,r1,rfl,h1,hv⟩:=hv;rw[aT] at hv;subst hv;exact MK hR h1 hl
 ·rename_i t l x;rw[aJ] at hv;obtain⟨a,r1,rfl,h1,hv⟩:=hv;rw[aT] at hv;subst hv;obtain⟨⟨e,s⟩,hel,hl⟩:=bind_eq_some_iff.1 hl;obtain⟨hu,_⟩:=gD hel;obtain⟨c,hc,hl⟩:=ar hl;cases hl;obtain⟨o,n,e',rfl⟩:=Rk h1 hc;refine⟨.int .i64 (c:Int),h,θ,?_,hR,by rw[VS],λv x h=>h⟩;show(match P.underlying t with | some (.slice _)=>some (AV.int .i64 (ofNat c),h) | _=>none)=_;rw[hu];rfl
 ·cases hl
def Qa{c a b:Option SV}{v:SV}(h:Hx c a b=some v):∃z x y,c=some (.a (.bool z))/\a=some x/\b=some y/\v=cond z x y:=by
 unfold Hx at h;split at h
 ·cases h;exact⟨_,_,_,rfl,rfl,rfl,rfl⟩
 ·cases h
def FR.jw{f:Fm}{af:Nat->AV}{n:Nat}{kill:Option Nat}{wv:Nat->AV}(hF:FR θ ρ (aO f) af n wv)(hk:∀v x,VS θ ρ v x->VS θ' ρ (jY kill v) x):FR θ' ρ (aO (Ev.jw f kill)) af n wv:=by
 refine⟨λi=>?_,hF.u⟩;have:=hk _ _ (hF.v i)
 cases kill with
 | none=>exact this
 | some o=>show VS θ' ρ (aO (di o f) i) _;rw[iF];exact this
def FR.put{f:Fm}{af:Nat->AV}{n:Nat}{wv:Nat->AV}(hF:FR θ ρ (aO f) af n wv){d:Nat}{v:SV}{x:AV}(hd:d<n)(hv:VS θ ρ v x):FR θ ρ (aO ((d,v)::f)) (Bx af d x) n wv:=by
 refine⟨λi=>?_,hF.u⟩;show VS θ ρ (if d=i then v else aO f i) _;by_cases hdi:d=i
 ·subst hdi;rw[t8 rfl,t8 hd,vl];exact hv
 ·rw[ul hdi,sg _ _ (λe=>hdi e.symm)];exact hF.v i
def FR.kill{f:Fm}{af:Nat->AV}{n:Nat}{kill:Option Nat}{wv:Nat->AV}(hF:FR θ ρ (aO f) af n wv)(hk:∀v x,VS θ ρ v x->VS θ' ρ (jY kill v) x){d:Nat}{v:SV}{x:AV}(hd:d<n)(hv:VS θ' ρ v x):FR θ' ρ (aO (sn f kill (some d) v)) (Bx af d x) n wv:=(hF.jw hk).put hd hv
def T1{h0:En}{h:H}{S S':List SO}(hR:RS θ ρ0 ρ h0 h S){f:Fm}{af:Nat->AV}{n:Nat}{wv:Nat->AV}(hF:FR θ ρ (aO f) af n wv){op:Op}{r:SV}{kill:Option Nat}(hop:cT P f S op=some (r,S',kill)):
 ∃rv h' θ',ek P (dg af n) h op=some [(rv,h')]/\RS θ' ρ0 ρ h0 h' S'/\VS θ' ρ r (Vs rv)/\∀v x,VS θ ρ v x->VS θ' ρ (jY kill v) x:=by
 have pure:∀{w:SV} {y:AV},ek P (dg af n) h op=some [(some y,h)]->VS θ ρ w y->some (w,S,(none:Option Nat))=some (r,S',kill)->∃rv h' θ',ek P (dg af n) h op=some [(rv,h')]/\RS θ' ρ0 ρ h0 h' S'/\VS θ' ρ r (Vs rv)/\∀v x,VS θ ρ v x->VS θ' ρ (jY kill v) x:=by
  intro w y h1 h2 h3;cases h3;exact⟨some y,h,θ,h1,hR,h2,λv x h=>h⟩
 have fresh:∀{so:SO} {ob:AO} {w:SV} {y:AV},ek P (dg af n) h op=some [(some y,{ h.lay h.next ob with next:=h.next+1 })]->((∃cs aS,so=.cells cs/\ob=.cells aS h.next/\cZ θ ρ cs aS)\/(so=.map [] [] none/\ob=.map [] 0))->VS (gT θ S.length ⟨h.next,h.next,h.next,h.next⟩) ρ w y->some (w,gS S so,some S.length)=some (r,S',kill)->∃rv h' θ',ek P (dg af n) h op=some [(rv,h')]/\RS θ' ρ0 ρ h0 h' S'/\VS θ' ρ r (Vs rv)/\∀v x,VS θ ρ v x->VS θ' ρ (jY kill v) x:=by
  intro so ob w y h1 h2 h3 h4;cases h4;obtain⟨k1,k2⟩:=hR.new h2;exact⟨some y,_,_,h1,k1,h3,k2⟩
 cases op with
 | move x=>
  obtain⟨v,hv,e⟩:=ar hop;obtain⟨a,ha,ka⟩:=bE hF hv;exact pure (by rw[R8,ha];rfl) ka (by rw[e])
 | assign x=>
  obtain⟨v,hv,e⟩:=ar hop;obtain⟨a,ha,ka⟩:=bE hF hv;exact pure (by rw[Nx,ha];rfl) ka (by rw[e])
 | pick c a b=>
  obtain⟨v,hv,e⟩:=ar hop;obtain⟨z,x,y,h1,h2,h3,rfl⟩:=Qa hv;obtain⟨c',g1,k1⟩:=bE hF h1;obtain⟨a',g2,k2⟩:=bE hF h2;obtain⟨b',g3,k3⟩:=bE hF h3;rw[VS] at k1;subst k1;exact pure (w:=cond z x y) (y:=cond z a' b') (by rw[R9,g1,g2,g3];rfl) (by cases z;exact k3;exact k2) (by rw[e])
 | alloc e=>
  obtain⟨z,hz,he⟩:=ar hop;exact fresh (w:=.ptr S.length 0) (so:=.cells (z.cells.map .a)) (ob:=.cells z.cells h.next) (by rw[PY,hz];rfl) (.inl ⟨_,_,rfl,rfl,cZ.a _⟩) (by rw[VS,cz]) (by rw[he])
 | box e x=>
  obtain⟨v,hv,hop⟩:=bind_eq_some_iff.1 hop;obtain⟨cs,hcs,he⟩:=ar hop;obtain⟨a,ha,ka⟩:=bE hF hv;exact fresh (w:=.ptr S.length 0) (so:=.cells cs) (ob:=.cells a.cells h.next) (by rw[TS,ha];rfl) (.inl ⟨_,_,rfl,rfl,vF ka hcs⟩) (by rw[VS,cz]) (by rw[he])
 | build tt ps=>
  obtain⟨l,hl,hop⟩:=bind_eq_some_iff.1 hop;obtain⟨v,hv,he⟩:=ar hop;obtain⟨aS,h1,k1⟩:=wG hF hl;obtain⟨a,ha,ka⟩:=MH k1 hv;exact pure (by rw[PZ,h1,ac,ha];rfl) ka (by rw[he])
 | buildSlice tt m ps=>
  obtain⟨l,hl,hop⟩:=bind_eq_some_iff.1 hop;obtain⟨q,hv,he⟩:=ar hop;obtain⟨aS,h1,k1⟩:=wG hF hl;obtain⟨cs,ha,ka⟩:=y6 k1 hv;exact fresh (w:=.buf S.length m q.1 (some m)) (so:=.cells q.2) (ob:=.cells cs h.next) (by rw[BN,h1,ac,ha];rfl) (.inl ⟨_,_,rfl,rfl,ka⟩) (by rw[VS,cz]) (by rw[he])
 | makeMap tt x=>
  cases x with
  | none=>
   have he:some ((SV.map S.length,gS S (.map [] [] none),some S.length):SV×List SO×Option Nat)=some (r,S',kill):=hop;exact fresh (w:=.map S.length) (so:=.map [] [] none) (ob:=.map [] 0) (by rw[JZ]) (.inr ⟨rfl,rfl⟩) (by rw[VS,cz]) he
  | some _=>simp[cT] at hop
 | makeSlice tt l c=>
  simp only[cT] at hop;split at hop
  ·rename_i la ca hl hc;obtain⟨q,hq,he⟩:=ar hop;obtain⟨l',g1,k1⟩:=bE hF hl;obtain⟨c',g2,k2⟩:=bE hF hc;rw[VS] at k1 k2;subst k1;subst k2;refine fresh (w:=.buf S.length q.1 q.2.1 (some q.2.2.1)) (so:=.cells (q.2.2.2.map .a)) (ob:=.cells q.2.2.2 h.next) (y:=.slice (some (h.next,0)) q.1 q.2.1 (some q.2.2.1)) ?_ (.inl ⟨_,_,rfl,rfl,cZ.a _⟩) (by rw[VS,cz]) (by rw[he]);simp only[ek,pI,g1,g2,ac,hq,aj]
  ·cases hop
 | load tt a=>
  obtain⟨a',ha,hop⟩:=bind_eq_some_iff.1 hop;obtain⟨v,hv,he⟩:=ar hop;obtain⟨x,g1,k1⟩:=bE hF ha;obtain⟨y,g2,k2⟩:=G4 hR k1 hv;exact pure (by rw[R6,g1,g2];rfl) k2 (by rw[he])
 | store tt a x=>
  obtain⟨a',ha,hop⟩:=bind_eq_some_iff.1 hop;obtain⟨x',hx,hop⟩:=bind_eq_some_iff.1 hop;obtain⟨S2,hS,he⟩:=ar hop;cases he;obtain⟨p,g1,k1⟩:=bE hF ha;obtain⟨y,g2,k2⟩:=bE hF hx;obtain⟨h',θ',e1,e2,e3⟩:=NS hR k1 k2 hS;exact⟨none,h',θ',by rw[P4,g1,g2,e1];rfl,e2,by rw[VS];rfl,e3⟩
 | nilCheck x=>
  obtain⟨a',ha,hop⟩:=bind_eq_some_iff.1 hop;obtain⟨v,hv,he⟩:=ar hop;obtain⟨p,g1,k1⟩:=bE hF ha;obtain⟨e1,rfl⟩:=RR (P:=P) k1 hv;refine pure (y:=p) ?_ k1 (by rw[he]);simp only[ek,g1,ac,e1,aj]
 | binOp op t x y yt=>
  obtain⟨x',hx,hop⟩:=bind_eq_some_iff.1 hop;obtain⟨y',hy,hop⟩:=bind_eq_some_iff.1 hop;obtain⟨xa,hxa,hop⟩:=bind_eq_some_iff.1 hop;obtain⟨ya,hya,hop⟩:=bind_eq_some_iff.1 hop;obtain⟨v,hv,he⟩:=ar hop;obtain⟨p,g1,k1⟩:=bE hF hx;obtain⟨q,g2,k2⟩:=bE hF hy;have e1:=ib k1 hxa;have e2:=ib k2 hya;subst e1;subst e2;exact pure (w:=.a v) (y:=v) (by rw[JW,g1,g2,ac,ac,hv];rfl) (by rw[VS]) (by rw[he])
 | unOp op t x=>
  obtain⟨x',hx,hop⟩:=bind_eq_some_iff.1 hop;obtain⟨xa,hxa,hop⟩:=bind_eq_some_iff.1 hop;obtain⟨v,hv,he⟩:=ar hop;obtain⟨p,g1,k1⟩:=bE hF hx;have e1:=ib k1 hxa;subst e1;exact pure (w:=.a v) (y:=v) (by rw[UP,g1,ac,hv];rfl) (by rw[VS]) (by rw[he])
 | convert s d x=>
  obtain⟨x',hx,hop⟩:=bind_eq_some_iff.1 hop;obtain⟨xa,hxa,hop⟩:=bind_eq_some_iff.1 hop;obtain⟨v,hv,he⟩:=ar hop;obtain⟨p,g1,k1⟩:=bE hF hx;have e1:=ib k1 hxa;subst e1;exact pure (w:=.a v) (y:=v) (by rw[R4,g1,ac,hv];rfl) (by rw[VS]) (by rw[he])
 | makeInterface t x=>
  simp only[cT] at hop;obtain⟨hi,hop⟩:=aK hop;obtain⟨v,hv,he⟩:=ar hop;obtain⟨p,g1,k1⟩:=bE hF hv;refine pure (w:=.iface t v) (y:=.iface t p) ?_ (by rw[VS];exact⟨p,rfl,k1⟩) (by rw[he]);unfold LF at hi
  cases hu:P.underlying t with
  | none=>rw[hu] at hi;cases hi
  | some d=>
   rw[hu] at hi;rw[P1 hu (by cases d<;>first | rfl | cases hi),g1];rfl
 | makeFunc g first cap=>
  cases g with
  | func g=>
   obtain⟨a,ha,hop⟩:=bind_eq_some_iff.1 hop;obtain⟨b,hb,he⟩:=ar hop;obtain⟨p,g1,k1⟩:=lu hF ha;obtain⟨q,g2,k2⟩:=lu hF hb;exact pure (w:=.fn g a b) (y:=.fn (.func g) p q) (by rw[R5,g1,g2];rfl) (by rw[VS];exact⟨p,q,rfl,k1,k2⟩) (by rw[he])
  | method nm=>
   obtain⟨a,ha,hop⟩:=bind_eq_some_iff.1 hop;obtain⟨a2,ha2,hop⟩:=bind_eq_some_iff.1 hop;obtain⟨b,hb,hop⟩:=bind_eq_some_iff.1 hop;obtain⟨b2,hb2,he⟩:=ar hop;obtain⟨p,g1,k1⟩:=lu hF ha;obtain⟨q,g2,k2⟩:=lu hF hb;have e1:=o5 k1 ha2;have e2:=o5 k2 hb2;subst e1;subst e2;exact pure (w:=.a (.fn (.method nm) p q)) (y:=.fn (.method nm) p q) (by rw[R7,g1,g2];rfl) (by rw[VS]) (by rw[he])
  | _=>simp[cT] at hop
 | slice tt x lo hi mx=>
  obtain⟨x',hx,hop⟩:=bind_eq_some_iff.1 hop;obtain⟨lo',hlo,hop⟩:=bind_eq_some_iff.1 hop;obtain⟨hi',hhi,hop⟩:=bind_eq_some_iff.1 hop;obtain⟨mx',hmx,hop⟩:=bind_eq_some_iff.1 hop;obtain⟨v,hv,he⟩:=ar hop;obtain⟨p,g1,k1⟩:=bE hF hx;obtain⟨y,g2,k2⟩:=NR (h:=h) k1 hv;refine pure (y:=y) ?_ k2 (by rw[he]);rw[P3,g1,EV hF hlo,EV hF hhi,EV hF hmx];simp only[ac,g2,aj]
 | fieldAddr s x fl=>
  obtain⟨x',hx,hop⟩:=bind_eq_some_iff.1 hop;obtain⟨v,hv,he⟩:=ar hop;obtain⟨p,g1,k1⟩:=bE hF hx;obtain⟨y,g2,k2⟩:=BG k1 hv;exact pure (by rw[EF,g1,ac,g2];rfl) k2 (by rw[he])
 | field s x fl=>
  obtain⟨x',hx,hop⟩:=bind_eq_some_iff.1 hop;obtain⟨v,hv,he⟩:=ar hop;obtain⟨p,g1,k1⟩:=bE hF hx;obtain⟨y,g2,k2⟩:=MZ k1 hv;exact pure (by rw[P0,g1,ac,g2];rfl) k2 (by rw[he])
 | indexAddr t x i=>
  obtain⟨x',hx,hop⟩:=bind_eq_some_iff.1 hop;obtain⟨i',hi,hop⟩:=bind_eq_some_iff.1 hop;obtain⟨v,hv,he⟩:=ar hop;obtain⟨p,g1,k1⟩:=bE hF hx;obtain⟨q,g3,k3⟩:=bE hF hi;obtain⟨y,g2,k2⟩:=BJ k1 k3 hv;exact pure (by rw[EG,g1,g3,ac,ac,g2];rfl) k2 (by rw[he])
 | index t x i=>
  obtain⟨x',hx,hop⟩:=bind_eq_some_iff.1 hop;obtain⟨i',hi,hop⟩:=bind_eq_some_iff.1 hop;obtain⟨v,hv,he⟩:=ar hop;obtain⟨p,g1,k1⟩:=bE hF hx;obtain⟨q,g3,k3⟩:=bE hF hi;obtain⟨y,g2,k2⟩:=M6 k1 k3 hv;exact pure (by rw[P2,g1,g3,ac,ac,g2];rfl) k2 (by rw[he])
 | lookup t x k ok=>
  obtain⟨x',hx,hop⟩:=bind_eq_some_iff.1 hop;obtain⟨i',hi,hop⟩:=bind_eq_some_iff.1 hop;obtain⟨v,hv,he⟩:=ar hop;obtain⟨p,g1,k1⟩:=bE hF hx;obtain⟨q,g3,k3⟩:=bE hF hi;obtain⟨y,g2,k2⟩:=JG hR k1 k3 hv;exact pure (by rw[Ny,g1,g3,ac,ac,g2];rfl) k2 (by rw[he])
 | mapUpdate t m k x=>
  obtain⟨m',hm,hop⟩:=bind_eq_some_iff.1 hop;obtain⟨k',hk,hop⟩:=bind_eq_some_iff.1 hop;obtain⟨x',hx,hop⟩:=bind_eq_some_iff.1 hop;obtain⟨S2,hS,he⟩:=ar hop;cases he;obtain⟨p,g1,k1⟩:=bE hF hm;obtain⟨q,g2,k2⟩:=bE hF hk;obtain⟨y,g3,k3⟩:=bE hF hx;obtain⟨h',e1,e2⟩:=Av hR k1 k2 k3 hS;refine⟨none,h',θ,?_,e2,by rw[VS];rfl,λv x h=>h⟩;rw[EH,g1,g2,g3];simp only[ac,e1,aj]
 | insert t m k x=>
  obtain⟨m',hm,hop⟩:=bind_eq_some_iff.1 hop;obtain⟨k',hk,hop⟩:=bind_eq_some_iff.1 hop;obtain⟨x',hx,hop⟩:=bind_eq_some_iff.1 hop;obtain⟨S2,hS,he⟩:=ar hop;cases he;obtain⟨p,g1,k1⟩:=bE hF hm;obtain⟨q,g2,k2⟩:=bE hF hk;obtain⟨y,g3,k3⟩:=bE hF hx;obtain⟨h',e1,e2⟩:=Av hR k1 k2 k3 hS;refine⟨none,h',θ,?_,e2,by rw[VS];rfl,λv x h=>h⟩;simp only[ek,g1,g2,g3,ac,e1,aj]
 | extract x i=>
  simp only[cT] at hop;split at hop
  ·rename_i vs hx;obtain⟨v,hv,he⟩:=ar hop;obtain⟨p,g1,k1⟩:=bE hF hx;rw[VS] at k1;obtain⟨aS,rfl,k1⟩:=k1;obtain⟨y,g2,k2⟩:=k1.get hv;refine pure (y:=y) ?_ k2 (by rw[he]);rw[JY,g1];simp only[Cx,g2,aj]
  ·cases hop
 | call c=>
  obtain⟨callee,args,ats⟩:=c
  cases callee with
  | builtin b=>
   obtain⟨xs,hxs,hop⟩:=bind_eq_some_iff.1 hop;obtain⟨p,g1,k1⟩:=lu hF hxs;obtain⟨z,h',θ',e1,e2,e3,e4⟩:=Gh hR k1 hop;refine⟨some z,h',θ',?_,e2,e3,e4⟩;rw[JX,g1,ac,e1];rfl
  | _=>simp[cT] at hop
 | _=>simp[cT] at hop
end
structure ez where
 f:Fm
 n:Nat
 S:List SO
 ds:List ja
def Ui(ds:List ja)(j:Nat):AV:=match ds.reverse[j]? with
 | some d=>match d.fn with
  | some f=>.fn f d.args d.cap
  | none=>jG
 | none=>jG
def yh(w:Nat->AV):List ja->Nat->AV
 | [],i=>w i
 | d::ds,i=>if 7000000<=i then Ui (d::ds) (i-7000000) else w i
def jL(ρ0:kq)(h0:En)(st:ez)(ast:gA):Prop:=ast.n=st.n/\ast.ds=st.ds/\∃θ ρ,RS θ ρ0 ρ h0 ast.h st.S/\FR θ ρ (aO st.f) ast.f st.n (yh h0.w ast.ds)
def UB(ρ0:kq)(h0:En)(N:Nat)(Q:Ex->ez->Prop):Ex->gA->Prop:=λex ast=>∃st,Q ex st/\st.n=N/\jL ρ0 h0 st ast
def aq(P:Program)(ro:Option Nat)(c:Code)(st:ez)(Q:Ex->ez->Prop):Prop:=∀ρ0 h0 ast,jL ρ0 h0 st ast->lk P ro c ast (UB ρ0 h0 st.n Q)
def aG(P:Program)(ro:Option Nat)(all l:List Oper)(st:ez)(K:ez->Prop):Prop:=∀ρ0 h0 ast,jL ρ0 h0 st ast->iQ P ro all l ast (λast'=>∃st',K st'/\st'.n=st.n/\jL ρ0 h0 st' ast')
section
variable {P:Program} {ro:Option Nat}
def aq.mono{c:Code}{st:ez}{Q Q':Ex->ez->Prop}(h:aq P ro c st Q)(hq:∀e x,Q e x->Q' e x):aq P ro c st Q':=
 λρ0 h0 ast hs=>(h ρ0 h0 ast hs).mono λ_ _ ⟨x,h1,h2⟩=>⟨x,hq _ _ h1,h2⟩
def aq.skip{st:ez}{Q:Ex->ez->Prop}(h:Q .normal st):aq P ro .skip st Q:=λ_ _ _ hs=>.skip ⟨st,h,rfl,hs⟩
def aq.label{l:Nat}{st:ez}{Q:Ex->ez->Prop}(h:Q .normal st):aq P ro (.label l) st Q:=λ_ _ _ hs=>.label ⟨st,h,rfl,hs⟩
def aq.exit{id:Nat}{st:ez}{Q:Ex->ez->Prop}(h:Q (.exit id) st):aq P ro (.exit id) st Q:=λ_ _ _ hs=>.exit ⟨st,h,rfl,hs⟩
def aq.ret{st:ez}{Q:Ex->ez->Prop}(h:Q .ret st):aq P ro .ret st Q:=λ_ _ _ hs=>.ret ⟨st,h,rfl,hs⟩
def dH(P:Program)(ro:Option Nat)(y:Code)(Q:Ex->ez->Prop):Ex->ez->Prop
 | .normal,st=>aq P ro y st Q
 | e,st=>Q e st
def aq.seq{x y:Code}{st:ez}{Q:Ex->ez->Prop}(h:aq P ro x st (dH P ro y Q)):aq P ro (.seq x y) st Q:=by
 intro ρ0 h0 ast hs;refine .seq ((h ρ0 h0 ast hs).mono ?_);rintro e a ⟨st',h1,h2,h3⟩
 cases e with
 | normal=>
  have:=h1 ρ0 h0 a h3;rw[h2] at this;exact this
 | _=>exact⟨st',h1,h2,h3⟩
def aq.cond{c:Operand}{x y:Code}{st:ez}{Q:Ex->ez->Prop}{b:Bool}(hc:eI st.f c=some (.a (.bool b)))(h1:b=true->aq P ro x st Q)(h2:b=false->aq P ro y st Q):aq P ro (.cond c x y) st Q:=by
 intro ρ0 h0 ast hs;obtain⟨a1,a2,θ,ρ,hR,hF⟩:=hs;rw[<-a1] at hF;obtain⟨a,ha,ka⟩:=bE hF hc;rw[VS] at ka;subst ka;refine .cond ha (λh=>h1 h ρ0 h0 ast ⟨a1,a2,θ,ρ,hR,by rw[<-a1];exact hF⟩) (λh=>h2 h ρ0 h0 ast ⟨a1,a2,θ,ρ,hR,by rw[<-a1];exact hF⟩)
def aq.yes{c:Operand}{x y:Code}{st:ez}{Q:Ex->ez->Prop}(hc:eI st.f c=some (.a (.bool true)))(h1:aq P ro x st Q):aq P ro (.cond c x y) st Q:=.cond hc (λ_=>h1) (λh=>by cases h)
def aq.no{c:Operand}{x y:Code}{st:ez}{Q:Ex->ez->Prop}(hc:eI st.f c=some (.a (.bool false)))(h1:aq P ro y st Q):aq P ro (.cond c x y) st Q:=.cond hc (λh=>by cases h) (λ_=>h1)
def fG(id:Nat)(Q:Ex->ez->Prop):Ex->ez->Prop
 | .exit i,st=>if i=id then Q .normal st else Q (.exit i) st
 | e,st=>Q e st
def aq.block{id:Nat}{x:Code}{st:ez}{Q:Ex->ez->Prop}(h:aq P ro x st (fG id Q)):aq P ro (.block id x) st Q:=by
 intro ρ0 h0 ast hs;refine .block ((h ρ0 h0 ast hs).mono ?_);rintro e a ⟨st',h1,h2,h3⟩
 cases e with
 | exit i=>
  simp only[fG] at h1;simp only[Oq];by_cases hi:i=id
  ·rw[t8 hi] at h1 ⊢;exact⟨st',h1,h2,h3⟩
  ·rw[ul hi] at h1 ⊢;exact⟨st',h1,h2,h3⟩
 | _=>exact⟨st',h1,h2,h3⟩
def Fg(st st':ez):Prop:=st'.n=st.n/\∀ρ0 h0 ast,jL ρ0 h0 st ast->jL ρ0 h0 st' ast
def Fg.trans{a b c:ez}(h1:Fg a b)(h2:Fg b c):Fg a c:=⟨h2.1.trans h1.1,λ_ _ _ h=>h2.2 _ _ _ (h1.2 _ _ _ h)⟩
def aq.fg{c:Code}{st st':ez}{Q:Ex->ez->Prop}(hf:Fg st st')(h:aq P ro c st' Q):aq P ro c st Q:=by
 intro ρ0 h0 ast hs;have:=h ρ0 h0 ast (hf.2 _ _ _ hs);rw[hf.1] at this;exact this
def cB(I:Nat->ez->Prop)(m:Nat)(Q:Ex->ez->Prop):Ex->ez->Prop
 | .normal,st=>∃k st',k<m/\Fg st st'/\I k st'
 | e,st=>Q e st
def aq.loop{x:Code}{st:ez}{Q:Ex->ez->Prop}(I:Nat->ez->Prop)(m:Nat){st0:ez}(hf:Fg st st0)(h0:I m st0)(hn:∀m st',I m st'->st'.n=st.n)(h:∀m st,I m st->aq P ro x st (cB I m Q)):aq P ro (.loop x) st Q:=by
 intro ρ0 hh ast hs;refine .loop (λm a=>∃st',I m st'/\jL ρ0 hh st' a) m ⟨st0,h0,hf.2 _ _ _ hs⟩ ?_;rintro k a ⟨st1,hI,hst⟩;refine(h k st1 hI ρ0 hh a hst).mono ?_;rintro e a' ⟨st',h1,h2,h3⟩;have hn1:=hn _ _ hI
 cases e with
 | normal=>
  obtain⟨k',st2,hk,hfg,hI2⟩:=h1;exact⟨k',hk,st2,hI2,hfg.2 _ _ _ h3⟩
 | _=>exact⟨st',h1,h2.trans hn1,h3⟩
def bX(Q:Ex->ez->Prop):Ex->ez->Prop
 | .goto _,_=>False
 | e,st=>Q e st
def aq.scope{x:Code}{st:ez}{Q:Ex->ez->Prop}(h:aq P ro x st (bX Q)):aq P ro (.scope x) st Q:=by
 intro ρ0 h0 ast hs;refine .scope ((h ρ0 h0 ast hs).mono ?_);rintro e a ⟨st',h1,h2,h3⟩
 cases e with
 | goto l=>exact h1.elim
 | _=>exact⟨st',h1,h2,h3⟩
def aq.region{id:Nat}{ops:Array Oper}{st:ez}{Q:Ex->ez->Prop}(h:aG P ro ops.toList ops.toList st (Q .normal)):aq P ro (.region id ops false) st Q:=by
 intro ρ0 h0 ast hs;obtain⟨f,n,hh,ds⟩:=ast;refine .region ?_;have:=h ρ0 h0 _ hs;intro ops i h1 h2 F n σ a w Q' h3 h4 h5;exact this ops i h1 h2 F n σ a w Q' h3 h4 λst' a' w' σ' h6=>h5 st' a' w' σ' (by obtain⟨x,k1,k2,k3⟩:=h6;exact⟨x,k1,k2,k3⟩)
def vn(ops:List Oper)(f:Fm)(n:Nat)(o:Oper):Option Bool:=match o.guard with
 | none=>some true
 | some (j,want)=>match (ops[j]?).bind (·.dst) with
  | some d=>_root_.cond (blt d n) (match aO f d with
   | .a (.bool b)=>some (b==want)
   | .a (.bC [])=>some false
   | _=>none) none
  | none=>none
def cH{θ:Nat->Loc}{ρ:kq}{ops:List Oper}{f:Fm}{af:Nat->AV}{n:Nat}{wv:Nat->AV}(hF:FR θ ρ (aO f) af n wv){o:Oper}{b:Bool}(h:vn ops f n o=some b):ko ops af n o=some b:=by
 unfold vn at h;unfold ko;split at h
 ·rename_i hg;rw[hg];exact h
 ·rename_i j want hg;rw[hg];simp only;split at h
  ·rename_i d hd;obtain⟨hlt,h2⟩:=aK h;have:=hF.v d;rw[t8 (fz hlt)] at this;rw[hd];simp only;rw[hlt,ae];split at h2
   ·rename_i hx;rw[hx,VS] at this;rw[this];exact h2
   ·rename_i hx;rw[hx,VS] at this;rw[this];exact h2
   ·cases h2
  ·cases h
def dJ(all:List Oper)(n:Nat)(l:List Oper):Bool:=l.all λo=>wX o.dst n&&(match o.guard with
 | none=>true
 | some (j,_)=>match (all[j]?).bind (·.dst) with
  | some d=>blt d n
  | none=>false)
def DO(want:Bool):SV->Option Bool
 | .a (.bool b)=>some (_root_.cond want b (!b))
 | .a (.bC [])=>some false
 | _=>none
def cg(all:List Oper)(f:Fm)(g:Option (Nat×Bool)):Option Bool:=match g with
 | none=>some true
 | some (j,want)=>(all[j]?).bind λo=>o.dst.bind λd=>DO want (aO f d)
def dN{all:List Oper}{f:Fm}{n:Nat}{o:Oper}{l:List Oper}{b:Bool}(hs:dJ all n (o::l)=true)(h:cg all f o.guard=some b):vn all f n o=some b:=by
 unfold dJ at hs;rw[cl,a3,a3] at hs;have hs2:=hs.1.2;unfold cg at h;unfold vn
 cases hg:o.guard with
 | none=>rw[hg] at h;exact h
 | some q=>
  obtain⟨j,want⟩:=q;rw[hg] at h hs2;simp only at h hs2 ⊢;obtain⟨oj,hj,h⟩:=bind_eq_some_iff.1 h;obtain⟨d,hd,h⟩:=bind_eq_some_iff.1 h;rw[hj,ac,hd] at hs2 ⊢;simp only at hs2 ⊢;rw[hs2,ae];unfold DO at h;split at h
  ·rename_i b' hb;cases want<;>cases b'<;>exact h
  ·exact h
  ·cases h
def eJ{all:List Oper}{n:Nat}{o:Oper}{l:List Oper}(hs:dJ all n (o::l)=true):wX o.dst n=true/\dJ all n l=true:=by
 unfold dJ at hs ⊢;rw[cl,a3,a3] at hs;exact⟨hs.1.1,hs.2⟩
def nN(P:Program)(all:List Oper):List Oper->Fm->List SO->List Oper×Fm×List SO
 | [],f,S=>([],f,S)
 | o::l,f,S=>match cg all f o.guard with
  | some true=>match cT P f S o.op with
   | some q=>nN P all l (sn f q.2.2 o.dst q.1) q.2.1
   | none=>(o::l,f,S)
  | some false=>match o.dst with
   | some d=>nN P all l ((d,.a jG)::f) S
   | none=>(o::l,f,S)
  | none=>(o::l,f,S)
def aG.nil{all:List Oper}{st:ez}{K:ez->Prop}(h:K st):aG P ro all [] st K:=λ_ _ _ hs=>.nil ⟨st,h,rfl,hs⟩
def NL{f:Fm}{S:List SO}{op:Op}{q:SV×List SO×Option Nat}(h:cT P f S op=some q):r4 op=true:=by
 cases op<;>first | rfl | (simp[cT] at h;done)
def aG.run{all:List Oper}{ds:List ja}{n:Nat}{K:ez->Prop}:∀{l l':List Oper} {f f':Fm} {S S':List SO},dJ all n l=true->nN P all l f S=(l',f',S')->aG P ro all l' ⟨f',n,S',ds⟩ K->aG P ro all l ⟨f,n,S,ds⟩ K
 | [],l',f,f',S,S',_,h,hk=>by
  simp only[nN,Prod.mk.injEq] at h;obtain⟨rfl,rfl,rfl⟩:=h;exact hk
 | o::l,l',f,f',S,S',hst,h,hk=>by
  have stop:(o::l,f,S)=(l',f',S')->aG P ro all (o::l) ⟨f,n,S,ds⟩ K:=by
   intro e;simp only[Prod.mk.injEq] at e;obtain⟨rfl,rfl,rfl⟩:=e;exact hk
  obtain⟨hd,hst2⟩:=eJ hst;unfold nN at h;split at h
  ·rename_i hw;have hw:=dN hst hw;split at h
   ·rename_i q hop;obtain⟨v,S1,kill⟩:=q;rintro ρ0 h0 ⟨af,n',hh,ds'⟩ ⟨rfl,rfl,θ,ρ,hR,hF⟩;obtain⟨rv,h',θ',e1,e2,e3,e4⟩:=T1 hR hF hop;refine .cons (cH hF hw) (.run (NL hop) hd e1 ?_);intro x hx;rw[List.mem_singleton.1 hx];refine aG.run hst2 h hk ρ0 h0 _ ⟨rfl,rfl,θ',ρ,e2,?_⟩
    cases hdd:o.dst with
    | none=>exact hF.jw e4
    | some d=>rw[hdd] at hd;cases rv<;>exact hF.kill e4 (fz hd) e3
   ·exact stop h
  ·rename_i hw;have hw:=dN hst hw;split at h
   ·rename_i d hdst;rw[hdst] at hd;rintro ρ0 h0 ⟨af,n',hh,ds'⟩ ⟨rfl,rfl,θ,ρ,hR,hF⟩;refine .s hdst (cH hF hw) hd ?_;exact aG.run hst2 h hk ρ0 h0 _ ⟨rfl,rfl,θ,ρ,hR,hF.put (fz hd) (by rw[VS])⟩
   ·exact stop h
  ·exact stop h
end
mutual
inductive Wk (S:List SO):SV->SV->Prop
 | any (v:SV):Wk S v .any
 | a (v:AV):Wk S (.a v) (.a v)
 | sl (n e:Nat) (cs:List SV):Wk S (.sl n e cs) (.sl n e cs)
 | im (ks:List AV) (vs:List SV):Wk S (.im ks vs) (.im ks vs)
 | ip (cs:List SV):Wk S (.ip cs) (.ip cs)
 | nil (e:Nat):Wk S (.a (.slice none 0 0 (some 0))) (.sl 0 e [])
 | ptr {o off:Nat} {cs ds:List SV}:S[o]?=some (.cells cs)->bl S (cs.drop off) ds->off<=cs.length->Wk S (.ptr o off) (.ip ds)
 | buf {o n e:Nat} {c:Option Nat} {cs ds:List SV}:S[o]?=some (.cells cs)->bl S (cs.take (n*e)) ds->n*e<=cs.length->Wk S (.buf o n e c) (.sl n e ds)
 | sub {o off n e:Nat} {c:Option Nat} {cs ds:List SV}:S[o]?=some (.cells cs)->bl S ((cs.drop off).take (n*e)) ds->off+n*e<=cs.length->Wk S (.sub o off n e c) (.sl n e ds)
 | e0 (e:Nat):Wk S (.e0 e) (.e0 e)
 | VB (e:Nat):Wk S (.e0 e) (.sl 0 e [])
 | map {o:Nat} {ks:List AV} {vs ws:List SV} {b:Option (List Nat×Nat)}:S[o]?=some (.map ks vs b)->bl S vs ws->Wk S (.map o) (.im ks ws)
 | ag {cs ds:List SV}:bl S cs ds->Wk S (.ag cs) (.ag ds)
 | bC {cs ds:List SV}:bl S cs ds->Wk S (.bC cs) (.bC ds)
 | fn {g:FuncId} {a b c d:List SV}:bl S a c->bl S b d->Wk S (.fn g a b) (.fn g c d)
 | iface {t:TypeId} {v w:SV}:Wk S v w->Wk S (.iface t v) (.iface t w)
inductive bl (S:List SO):List SV->List SV->Prop
 | nil:bl S [] []
 | cons {v w:SV} {vs ws:List SV}:Wk S v w->bl S vs ws->bl S (v::vs) (w::ws)
end
def pC(θ:Nat->Loc)(ρ:kq)(h:H)(S:List SO):kq:=λid=>match ρ id with
 | some ob=>some ob
 | none=>@ite _ (∃o so,S[o]?=some so/\so≠.gone/\(θ o).id=id) (Classical.propDecidable _) (h.aU.get id) none
section
variable {θ:Nat->Loc} {ρ ρ0:kq} {P:Program} {h0:En} {h:H} {S:List SO}
def rj{id:Nat}{ob:AO}(hi:ρ id=some ob):pC θ ρ h S id=some ob:=by unfold pC;rw[hi]
def uJ(hR:RS θ ρ0 ρ h0 h S){o:Nat}{so:SO}(hS:S[o]?=some so)(hg:so≠.gone):pC θ ρ h S (θ o).id=h.aU.get (θ o).id:=by
 unfold pC
 cases hr:ρ (θ o).id with
 | some ob=>rw[(hR.row _ _ hr).2.1]
 | none=>simp only;rw[t8 ⟨o,so,hS,hg,rfl⟩]
mutual
def Wk.ok(hR:RS θ ρ0 ρ h0 h S):∀{v w:SV} {x:AV},Wk S v w->VS θ ρ v x->GS (pC θ ρ h S) w x
 | _,_,_,.any v,_=>by rw[GS];trivial
 | _,_,_,.a v,hv=>by rw[VS] at hv;rw[GS];exact hv
 | _,_,_,.sl n e cs,hv=>by rw[VS] at hv;exact hv.mono λ_ _ h=>rj h
 | _,_,_,.im ks vs,hv=>by rw[VS] at hv;exact hv.mono λ_ _ h=>rj h
 | _,_,_,.ip cs,hv=>by rw[VS] at hv;exact hv.mono λ_ _ h=>rj h
 | _,_,_,.nil e,hv=>by
  rw[VS] at hv;subst hv;rw[GS];exact .inl ⟨rfl,rfl,none,0,some 0,rfl,λ_=>rfl,λh=>t7 rfl h⟩
 | _,_,_,@Wk.ptr _ o off cs ds hS hw hle,hv=>by
  rw[VS] at hv;subst hv;obtain⟨_,aS,q1,q2,_⟩:=hR.obj o _ hS (λh=>by cases h);rw[GS];refine⟨_,off,aS,aS.length-off,rfl,?_,?_,?_⟩
  ·unfold qf;rw[uJ hR hS (λh=>by cases h),q1]
  ·rw[q2.length];omega
  ·have:=bl.ok hR hw (q2.drop off);rw[cc (by rw[cd];exact b0 _)];exact this
 | _,_,_,@Wk.buf _ o n e c cs ds hS hw hle,hv=>by
  rw[VS] at hv;subst hv;obtain⟨_,aS,q1,q2,_⟩:=hR.obj o _ hS (λh=>by cases h);rw[GS];refine .inr ⟨_,0,c,aS,rfl,?_,by rw[q2.length];omega,?_⟩
  ·unfold qf;rw[uJ hR hS (λh=>by cases h),q1]
  ·rw[bZ];exact bl.ok hR hw (q2.take _)
 | _,_,_,@Wk.sub _ o off n e c cs ds hS hw hle,hv=>by
  rw[VS] at hv;subst hv;obtain⟨_,aS,q1,q2,_⟩:=hR.obj o _ hS (λh=>by cases h);rw[GS];refine .inr ⟨_,off,c,aS,rfl,?_,by rw[q2.length];omega,?_⟩
  ·unfold qf;rw[uJ hR hS (λh=>by cases h),q1]
  ·exact bl.ok hR hw ((q2.drop off).take _)
 | _,_,_,.e0 e,hv=>by rw[VS] at hv;rw[GS];exact hv
 | _,_,_,.VB e,hv=>by
  rw[VS] at hv;obtain⟨o,e',rfl,ho⟩:=hv;rw[GS];exact .inl ⟨rfl,rfl,o,e',some 0,rfl,λ_=>rfl,ho⟩
 | _,_,_,@Wk.map _ o ks vs ws b hS hw,hv=>by
  rw[VS] at hv;subst hv;obtain⟨_,l,c,q1,q2,q3⟩:=hR.obj o _ hS (λh=>by cases h);rw[GS];exact⟨_,l,c,rfl,by rw[uJ hR hS (λh=>by cases h),q1],⟨q2.1,q2.2.1,λp hp=>by cases hp⟩,bl.ok hR hw q3⟩
 | _,_,_,.ag hw,hv=>by rw[VS] at hv;obtain⟨aS,h1,h2⟩:=hv;rw[GS];exact⟨aS,h1,bl.ok hR hw h2⟩
 | _,_,_,.bC hw,hv=>by rw[VS] at hv;obtain⟨aS,h1,h2⟩:=hv;rw[GS];exact⟨aS,h1,bl.ok hR hw h2⟩
 | _,_,_,.fn hw1 hw2,hv=>by rw[VS] at hv;obtain⟨xs,ys,h1,h2,h3⟩:=hv;rw[GS];exact⟨xs,ys,h1,bl.ok hR hw1 h2,bl.ok hR hw2 h3⟩
 | _,_,_,.iface hw,hv=>by rw[VS] at hv;obtain⟨y,h1,h2⟩:=hv;rw[GS];exact⟨y,h1,Wk.ok hR hw h2⟩
def bl.ok(hR:RS θ ρ0 ρ h0 h S):∀{vs ws:List SV} {xs:List AV},bl S vs ws->cZ θ ρ vs xs->kr (pC θ ρ h S) ws xs
 | _,_,_,.nil,hv=>by rw[aT] at hv;rw[gL];exact hv
 | _,_,_,.cons h1 h2,hv=>by
  rw[aJ] at hv;obtain⟨a,r,rfl,k1,k2⟩:=hv;rw[eE];exact⟨a,r,rfl,Wk.ok hR h1 k1,bl.ok hR h2 k2⟩
end
def RS.EB(hR:RS θ ρ0 ρ h0 h S):RS θ ρ0 ρ h0 h []:=⟨hR.ok,hR.nx,hR.ob,hR.fm,hR.lw,hR.ln,λo so h=>by simp at h,λo o' so so' _ h=>by simp at h,λid ob hi=>⟨(hR.row id ob hi).1,(hR.row id ob hi).2.1,λo so h=>by simp at h⟩,hR.mM⟩
def AR:pC θ ρ h []=ρ:=by
 funext id;unfold pC
 cases hr:ρ id with
 | some ob=>rfl
 | none=>simp only;rw[ul];rintro⟨o,so,h,_⟩;simp at h
def Ou(ρ:kq)(h:H):Prop:=∀id ob,ρ id=some ob->id<h.next/\h.aU.get id=some ob
def Ux(h:H)(ρ ρ':kq)(h':H):Prop:=∀id ob,ρ' id=some ob->ρ id=some ob\/(h.next<=id/\id<h'.next/\h'.aU.get id=some ob)
def qc(hR:RS θ ρ0 ρ h0 h S):Ou (pC θ ρ h S) h:=by
 intro id ob hi;unfold pC at hi
 cases hr:ρ id with
 | some ob'=>rw[hr] at hi;cases hi;exact⟨(hR.row id _ hr).1,(hR.row id _ hr).2.1⟩
 | none=>
  rw[hr] at hi;simp only at hi;split at hi
  ·rename_i hex;obtain⟨o,so,h1,h2,rfl⟩:=hex;obtain⟨⟨k1,k2,k3,_⟩,_⟩:=hR.obj o so h1 h2;exact⟨by rcases k1 with e | e<;>omega,hi⟩
  ·cases hi
def PC(P:Program)(g:FuncId)(args:List SV)(Q:SV->Prop):Prop:=∀ρ h avs,Ou ρ h->kr ρ args avs->
 dy P (.func g) avs h (λv h'=>∃r ρ',Q r/\Over h.next h h'/\Ux h ρ ρ' h'/\GS ρ' r v)
mutual
def w6:SV->Bool
 | .any=>true
 | .a _=>true
 | .ag cs=>Jt cs
 | .bC cs=>Jt cs
 | _=>false
def Jt:List SV->Bool
 | []=>true
 | d::ds=>w6 d&&Jt ds
end
mutual
def GS.flat{ρ':kq}:∀{r:SV} {x:AV},w6 r=true->GS ρ' r x->VS θ ρ r x
 | .any,_,_,_=>by rw[VS];trivial
 | .a v,x,_,hg=>by rw[GS] at hg;rw[VS];exact hg
 | .ag cs,x,hf,hg=>by rw[w6] at hf;rw[GS] at hg;obtain⟨aS,h1,h2⟩:=hg;rw[VS];exact⟨aS,h1,kr.flat hf h2⟩
 | .bC cs,x,hf,hg=>by rw[w6] at hf;rw[GS] at hg;obtain⟨aS,h1,h2⟩:=hg;rw[VS];exact⟨aS,h1,kr.flat hf h2⟩
 | .sl _ _ _,_,hf,_=>by simp[w6] at hf
 | .im _ _,_,hf,_=>by simp[w6] at hf
 | .ip _,_,hf,_=>by simp[w6] at hf
 | .ptr _ _,_,hf,_=>by simp[w6] at hf
 | .map _,_,hf,_=>by simp[w6] at hf
 | .buf _ _ _ _,_,hf,_=>by simp[w6] at hf
 | .sub _ _ _ _ _,_,hf,_=>by simp[w6] at hf
 | .e0 _,_,hf,_=>by simp[w6] at hf
 | .fn _ _ _,_,hf,_=>by simp[w6] at hf
 | .iface _ _,_,hf,_=>by simp[w6] at hf
def kr.flat{ρ':kq}:∀{rs:List SV} {xs:List AV},Jt rs=true->kr ρ' rs xs->cZ θ ρ rs xs
 | [],xs,_,hg=>by rw[gL] at hg;rw[aT];exact hg
 | d::ds,xs,hf,hg=>by
  rw[Jt,a3] at hf;rw[eE] at hg;obtain⟨a,r,rfl,h1,h2⟩:=hg;rw[aJ];exact⟨a,r,rfl,GS.flat hf.1 h1,kr.flat hf.2 h2⟩
end
def gM(P:Program)(f:Fm)(c:Call):Option (FuncId×List SV):=match c.callee with
 | .value x=>match eI f x with
  | some (.fn g first cap)=>(nw f c.args.toList).map λxs=>(g,(first++xs)++cap)
  | _=>none
 | .invoke r name=>match eI f r with
  | some (.iface t v)=>(jq P t name).bind λg=>(nw f c.args.toList).map λxs=>(g,v::xs)
  | _=>none
 | .builtin _=>none
def y7{f:Fm}{af:Nat->AV}{n:Nat}{wv:Nat->AV}(hF:FR θ ρ (aO f) af n wv){c:Call}{g:FuncId}{vs:List SV}(hc:gM P f c=some (g,vs)):∃xs cap,pQ P (dg af n) c=some (.func g,xs,cap)/\cZ θ ρ vs (xs++cap):=by
 unfold gM at hc;unfold pQ;split at hc
 ·rename_i x hx;rw[hx];simp only;split at hc
  ·rename_i g' first cap hv
   obtain⟨xs,hxs,e⟩:=ar hc;cases e;obtain⟨a,ha,ka⟩:=bE hF hv;rw[VS] at ka;obtain⟨fs,cs,rfl,k1,k2⟩:=ka;obtain⟨aS,hs,ks⟩:=lu hF hxs;rw[ha];simp only;rw[hs];exact⟨fs++aS,cs,rfl,(k1.app ks).app k2⟩
  ·cases hc
 ·rename_i r name hx;rw[hx];simp only;split at hc
  ·rename_i t v hv;obtain⟨g',hg,hc⟩:=bind_eq_some_iff.1 hc;obtain⟨xs,hxs,e⟩:=ar hc;cases e;obtain⟨a,ha,ka⟩:=bE hF hv;rw[VS] at ka;obtain⟨y,rfl,k1⟩:=ka;obtain⟨aS,hs,ks⟩:=lu hF hxs;rw[ha];simp only;rw[hg,ac,hs];refine⟨y::aS,[],rfl,?_⟩;rw[List.append_nil,aJ];exact⟨y,aS,rfl,k1,ks⟩
  ·cases hc
 ·cases hc
def nK.mono{ρ':kq}{h':H}{L:Loc}{so:SO}(hx:nK θ ρ h L so)(hm:∀id ob,ρ id=some ob->ρ' id=some ob)(ho:h'.aU.get L.id=h.aU.get L.id)(hf:h'.dB.get L.bY=h.dB.get L.bY):nK θ ρ' h' L so:=by
 cases so with
 | cells cs=>obtain⟨aS,h1,h2,h3⟩:=hx;exact⟨aS,by rw[ho];exact h1,h2.mono hm,by rw[hf];exact h3⟩
 | map ks vs b=>obtain⟨l,c,h1,h2,h3⟩:=hx;exact⟨l,c,by rw[ho];exact h1,h2,h3.mono hm⟩
 | iter m bs c pos=>obtain⟨lq,h1,h2⟩:=hx;exact⟨lq,h1.mono hm,by rw[ho];exact h2⟩
 | pd ks vs bs c pos=>obtain⟨lq,l,h1,h2,h3,h4⟩:=hx;exact⟨lq,l,hm _ _ h1,h2,h3.mono hm,by rw[ho];exact h4⟩
 | gone=>trivial
 | loop c ls p f=>
  obtain⟨h1,h2,h3⟩:=hx;exact⟨h1,by rw[ho];exact h2,λi hi=>(h3 i hi).mono hm⟩
 | oT N=>exact⟨hx.1,by rw[ho];exact hx.2⟩
def HH(h:H)(ρ ρ':kq):kq:=λid=>if id<h.next then ρ id else ρ' id
def RS.call{ρ':kq}{h':H}(hR:RS θ ρ0 ρ h0 h S)(ho:Over h.next h h')(hn:Ux h ρ ρ' h'):RS θ ρ0 (HH h ρ ρ') h0 h' S/\(∀id ob,ρ id=some ob->HH h ρ ρ' id=some ob)/\∀id ob,ρ' id=some ob->HH h ρ ρ' id=some ob:=by
 have hold:∀id ob,ρ id=some ob->HH h ρ ρ' id=some ob:=by
  intro id ob hi;unfold HH;rw[t8 (hR.row id ob hi).1];exact hi
 have hlw:h'.low=h.low:=ho.low hR.ln;have hpr:∀j,h0.pr j->j<h.next:=λj hj=>ay (hR.ok.pr j hj) hR.nx;have hpf:∀j,h0.pf j->j<h.next:=λj hj=>ay (hR.ok.pf j hj) hR.nx;refine⟨⟨hR.ok,be hR.nx ho.next,λj hj=>(ho.aU j (hpr j hj)).trans (hR.ob j hj),λj hj=>(ho.dB j (hpf j hj)).trans (hR.fm j hj),by rw[hlw];exact hR.lw,by rw[hlw];exact be hR.ln ho.next,?_,hR.sep,?_,?_⟩,hold,?_⟩
 ·intro o so h1 h2;obtain⟨k,k2⟩:=hR.obj o so h1 h2;refine⟨k.mono ho.next,?_⟩
  have hid:(θ o).id<h.next:=by rcases k.e with e | e<;>rw[e];exact k.x.2;exact k.y.2
  exact k2.mono hold (ho.aU _ hid) (ho.dB _ k.f.2)
 ·intro id ob hi;unfold HH at hi;split at hi
  ·rename_i hlt;obtain⟨r1,r2,r3⟩:=hR.row id ob hi;exact⟨ay r1 ho.next,by rw[ho.aU id r1];exact r2,r3⟩
  ·rename_i hlt
   rcases hn id ob hi with e | ⟨e1,e2,e3⟩
   ·exact t7 (hR.row id ob e).1 hlt
   ·refine⟨e2,e3,λo so h1 h2=>?_⟩;obtain⟨k,_⟩:=hR.obj o so h1 h2;have:=k.x.2;have:=k.y.2;omega
 ·intro id ob hi;unfold HH at hi;split at hi
  ·exact hR.mM id ob hi
  ·exact .inr (λhj=>by have:=hpr id hj;omega)
 ·intro id ob hi;unfold HH;split
  ·rename_i hlt
   rcases hn id ob hi with e | ⟨e1,_⟩
   ·exact e
   ·omega
  ·exact hi
def FR.mono{ρ':kq}{f:Nat->SV}{af:Nat->AV}{n:Nat}{wv:Nat->AV}(hF:FR θ ρ f af n wv)(hm:∀id ob,ρ id=some ob->ρ' id=some ob):FR θ ρ' f af n wv:=⟨λi=>(hF.v i).mono hm,hF.u⟩
def aG.call{ro:Option Nat}{all:List Oper}{o:Oper}{l:List Oper}{f:Fm}{n:Nat}{ds:List ja}{K:ez->Prop}{d:Nat}{c:Call}{g:FuncId}{vs ws:List SV}{Q:SV->Prop}(hop:o.op=.call c)(hdst:o.dst=some d)(hw:vn all f n o=some true)(hdy:gf (.call c)=true)(hd:blt d n=true)
 (hc:gM P f c=some (g,vs)) (hq:PC P g ws Q) (hwk:bl S vs ws) (hfl:(∀r,Q r->w6 r=true)\/bl [] vs ws) (hk:∀r,Q r->aG P ro all l ⟨(d,r)::f,n,S,ds⟩ K):aG P ro all (o::l) ⟨f,n,S,ds⟩ K:=by
 rintro ρ0 h0 ⟨af,n',h,ds'⟩ ⟨rfl,rfl,θ,ρ,hR,hF⟩;obtain⟨xs,cap,h1,h2⟩:=y7 hF hc
 rcases hfl with hfl | hfl
 ·refine .c hop hdst (cH hF hw) hdy hd h1 rfl (hq _ _ _ (qc hR) (hwk.ok hR h2)) ?_;rintro v h' ⟨r,ρ',k1,k2,k3,k4⟩;obtain⟨j1,j2,_⟩:=hR.call (ρ':=λ_=>none) k2 (λid ob hi=>by cases hi);exact hk r k1 ρ0 h0 _ ⟨rfl,rfl,θ,_,j1,(hF.mono j2).put (fz hd) (k4.flat (hfl r k1))⟩
 ·have:=hfl.ok hR.EB h2;rw[AR] at this;refine .c hop hdst (cH hF hw) hdy hd h1 rfl (hq _ _ _ (λid ob hi=>⟨(hR.row id ob hi).1,(hR.row id ob hi).2.1⟩) this) ?_;rintro v h' ⟨r,ρ',k1,k2,k3,k4⟩;obtain⟨j1,j2,j3⟩:=hR.call k2 k3;exact hk r k1 ρ0 h0 _ ⟨rfl,rfl,θ,_,j1,(hF.mono j2).put (fz hd) ((k4.mono j3).vs)⟩
end
def kC:Nat->List SV->Fm
 | _,[]=>[]
 | i,v::vs=>(i,v)::kC (i+1) vs
def tK:∀(vs:List SV) (i j:Nat),aO (kC i vs) j=if i<=j then (match vs[j-i]? with | some v=>v | none=>.any) else .any
 | [],i,j=>by simp[kC,aO]
 | v::vs,i,j=>by
  show(if i=j then v else aO (kC (i+1) vs) j)=_;rw[tK vs (i+1) j];by_cases h:i=j
  ·subst h;simp
  ·rw[ul h];by_cases h2:i<=j
   ·rw[t8 (by omega),t8 h2];obtain⟨k,hk⟩:∃k,j-i=k+1:=⟨j-i-1,by omega⟩;rw[hk,bk,show j-(i+1)=k by omega]
   ·rw[ul (by omega),ul h2]
def nk(P:Program)(f:Fm)(S:List SO):List ResultVar->Option (List SV)
 | []=>some []
 | .tmp i::l=>(eI f (.tmp i)).bind λv=>(nk P f S l).map λb=>v::b
 | .cell a t::l=>(eI f (.tmp a)).bind λx=>(uo P S t x).bind λv=>(nk P f S l).map λb=>v::b
def df:List SV->SV
 | [v]=>v
 | vs=>.bC vs
def sP(P:Program)(fn:Func)(Q:SV->Prop):Ex->ez->Prop:=λe st=>kQ e=true/\st.ds=[]/\∃vs r,nk P st.f st.S fn.results.toList=some vs/\Wk st.S (df vs) r/\Q r
section
variable {P:Program}
def uG{θ:Nat->Loc}{ρ ρ0:kq}{h0:En}{h:H}{S:List SO}(hR:RS θ ρ0 ρ h0 h S){f:Fm}{af:Nat->AV}{n:Nat}{wv:Nat->AV}(hF:FR θ ρ (aO f) af n wv):∀{l:List ResultVar} {vs:List SV},nk P f S l=some vs->∃aS,(l.mapM λ
 | ResultVar.tmp i=>ev (dg af n) (.tmp i)
 | ResultVar.cell a tt=>match ev (dg af n) (.tmp a) with
  | some (.ptr (some (id,off)))=>h.load P tt id off
  | _=>none)=some aS/\cZ θ ρ vs aS
 | [],vs,hv=>by
  simp only[nk,Option.some.injEq] at hv;subst hv;exact⟨[],rfl,by rw[aT]⟩
 | .tmp i::l,vs,hv=>by
  rw[nk] at hv;obtain⟨v0,hv0,hv⟩:=bind_eq_some_iff.1 hv;obtain⟨b,hb,rfl⟩:=ar hv;obtain⟨aS,h1,h2⟩:=uG hR hF hb;obtain⟨a,ha,ka⟩:=bE hF (x:=.tmp i) hv0;refine⟨a::aS,?_,by rw[aJ];exact⟨a,aS,rfl,ka,h2⟩⟩;rw[cv];simp only[ha,h1];rfl
 | .cell a t::l,vs,hv=>by
  rw[nk] at hv;obtain⟨v0,hv0,hv⟩:=bind_eq_some_iff.1 hv;obtain⟨v,hv1,hv⟩:=bind_eq_some_iff.1 hv;obtain⟨b,hb,rfl⟩:=ar hv;obtain⟨aS,h1,h2⟩:=uG hR hF hb;obtain⟨p,hp,kp⟩:=bE hF (x:=.tmp a) hv0;obtain⟨y,hy,ky⟩:=G4 hR kp hv1;refine⟨y::aS,?_,by rw[aJ];exact⟨y,aS,rfl,ky,h2⟩⟩;rw[cv];simp only[hp,h1];unfold Ep at hy;split at hy
  ·rename_i he;cases he;simp only[hy];rfl
  ·cases hy
def QQ:List AV->AV
 | [v]=>v
 | vs=>.bC vs
def L7{θ:Nat->Loc}{ρ:kq}{vs:List SV}{aS:List AV}(h:cZ θ ρ vs aS):VS θ ρ (df vs) (QQ aS):=by
 match vs,h with
 | [],h=>rw[aT] at h;subst h;simp only[df];rw[VS];exact⟨[],rfl,by rw[aT]⟩
 | [v],h=>
  rw[aJ] at h;obtain⟨a,r,rfl,h1,h2⟩:=h;rw[aT] at h2;subst h2;exact h1
 | v::w::vs,h=>
  have h':=h;rw[aJ] at h;obtain⟨a,r,rfl,h1,h2⟩:=h;rw[aJ] at h2;obtain⟨b,r2,rfl,h3,h4⟩:=h2;simp only[df];rw[VS];exact⟨_,rfl,h'⟩
end
section
variable {θ:Nat->Loc} {ρ ρ0:kq} {P:Program} {h0:En} {h:H} {S S':List SO}
def si(f:Fm):Fm->Prop
 | []=>True
 | (i,v)::l=>aO f i=v/\si f l
def yP(S:List SO):List SO->Nat->Prop
 | [],_=>True
 | s::l,k=>(s=.gone\/S[k]?=some s)/\yP S l (k+1)
def yP.get:∀{l:List SO} {k:Nat},yP S l k->∀{o:Nat} {so:SO},l[o]?=some so->so≠.gone->S[k+o]?=some so
 | [],_,_,o,so,h,_=>by simp at h
 | s::l,k,hs,o,so,h,hg=>by
  obtain⟨h1,h2⟩:=hs
  cases o with
  | zero=>
   simp only[bo,Option.some.injEq] at h;subst h;exact h1.resolve_left hg
  | succ o=>
   simp only[bk] at h;have:=yP.get h2 h hg;rw[show k+(o+1)=k+1+o by omega];exact this
def RS.sub(hR:RS θ ρ0 ρ h0 h S)(hs:∀(o:Nat) (so:SO),S'[o]?=some so->so≠.gone->S[o]?=some so):RS θ ρ0 ρ h0 h S':=
 ⟨hR.ok,hR.nx,hR.ob,hR.fm,hR.lw,hR.ln,λo so h1 h2=>hR.obj o so (hs o so h1 h2) h2,λo o' so so' h h1 h2 h3 h4=>hR.sep o o' so so' h (hs o so h1 h2) h2 (hs o' so' h3 h4) h4,
  λid ob hi=>⟨(hR.row id ob hi).1,(hR.row id ob hi).2.1,λo so h1 h2=>(hR.row id ob hi).2.2 o so (hs o so h1 h2) h2⟩,hR.mM⟩
def si.get{f:Fm}:∀{f':Fm},si f f'->∀i,aO f' i=aO f i\/aO f' i=.any
 | [],_,i=>.inr rfl
 | (d,v)::l,h,i=>by
  obtain⟨h1,h2⟩:=h;show(if d=i then v else aO l i)=_\/(if d=i then v else aO l i)=_;by_cases e:d=i
  ·subst e;rw[t8 rfl];exact .inl h1.symm
  ·rw[ul e];exact si.get h2 i
def Fg.less{f f':Fm}{n:Nat}{ds:List ja}(hf:si f f')(hs:yP S S' 0):Fg ⟨f,n,S,ds⟩ ⟨f',n,S',ds⟩:=by
 refine⟨rfl,?_⟩;rintro ρ0 h0 ⟨af,n',h,ds'⟩ ⟨rfl,rfl,θ,ρ,hR,hF⟩;refine⟨rfl,rfl,θ,ρ,hR.sub λo so h1 h2=>by have:=hs.get h1 h2;rw[b6] at this;exact this,λi=>?_,hF.u⟩
 rcases hf.get i with e | e
 ·rw[e];exact hF.v i
 ·rw[e,VS];trivial
def nB(o:Nat)(so:SO):List SO:=cR o .gone++[so]
def r8{o p:Nat}{so s:SO}(h:(nB o so)[p]?=some s)(hg:s≠.gone):p=o/\s=so:=by
 unfold nB at h;rw[ch] at h;split at h
 ·rename_i hl;rw[cf] at hl;rw[List.getElem?_replicate,t8 hl] at h;cases h;exact t7 rfl hg
 ·rename_i hl;rw[cf] at hl h
  have:p-o=0:=by
   apply Decidable.byContradiction;intro hn;rw[bb (by simp;omega)] at h;cases h
  rw[this] at h;simp only[bo,Option.some.injEq] at h;exact⟨by omega,h.symm⟩
def DT(S:List SO)(f:Fm):Fm->Prop
 | []=>True
 | (i,v)::l=>(aO f i=v\/Wk S (aO f i) v)/\DT S f l
def DT.get{f:Fm}:∀{f':Fm},DT S f f'->∀i,aO f' i=aO f i\/Wk S (aO f i) (aO f' i)
 | [],_,i=>.inr (.any _)
 | (d,v)::l,h,i=>by
  obtain⟨h1,h2⟩:=h;show(if d=i then v else aO l i)=_\/Wk S _ (if d=i then v else aO l i);by_cases e:d=i
  ·subst e;rw[t8 rfl]
   rcases h1 with h1 | h1
   ·exact .inl h1.symm
   ·exact .inr h1
  ·rw[ul e];exact DT.get h2 i
def Fg.freeze{f f':Fm}{n:Nat}{ds:List ja}(o:Nat){so:SO}(hS:S[o]?=some so)(hg:so≠.gone)(hf:DT (nB o so) f f'):Fg ⟨f,n,S,ds⟩ ⟨f',n,S.set o .gone,ds⟩:=by
 refine⟨rfl,?_⟩;rintro ρ0 h0 ⟨af,n',h,ds'⟩ ⟨rfl,rfl,θ,ρ,hR,hF⟩
 have hsub:∀(p:Nat) (s:SO),(nB o so)[p]?=some s->s≠.gone->S[p]?=some s:=by
  intro p s h1 h2;obtain⟨rfl,rfl⟩:=r8 h1 h2;exact hS
 have hR1:=hR.sub hsub
 have hset:∀(p:Nat) (s:SO),(S.set o .gone)[p]?=some s->s≠.gone->S[p]?=some s/\p≠o:=by
  intro p s h1 h2;by_cases hp:p=o
  ·subst hp;rw[a9 (bf hS)] at h1;cases h1;exact t7 rfl h2
  ·rw[bd (λe=>hp e.symm)] at h1;exact⟨h1,hp⟩
 have hR2:=hR.sub (S':=S.set o .gone) λp s h1 h2=>(hset p s h1 h2).1;have hm:∀id ob,ρ id=some ob->pC θ ρ h (nB o so) id=some ob:=λid ob hi=>rj hi
 have key:∀id ob,pC θ ρ h (nB o so) id=some ob->ρ id=some ob\/id=(θ o).id:=by
  intro id ob hi;unfold pC at hi
  cases hr:ρ id with
  | some ob'=>rw[hr] at hi;exact .inl hi
  | none=>
   rw[hr] at hi;simp only at hi;split at hi
   ·rename_i hex;obtain⟨p,s,q1,q2,rfl⟩:=hex;obtain⟨rfl,_⟩:=r8 q1 q2;exact .inr rfl
   ·cases hi
 refine⟨rfl,rfl,θ,pC θ ρ h (nB o so),⟨hR2.ok,hR2.nx,hR2.ob,hR2.fm,hR2.lw,hR2.ln,?_,hR2.sep,?_,?_⟩,λi=>?_,hF.u⟩
 ·intro p s h1 h2;obtain⟨k,k2⟩:=hR2.obj p s h1 h2;exact⟨k,k2.mono hm rfl rfl⟩
 ·intro id ob hi;obtain⟨r1,r2⟩:=qc hR1 id ob hi;refine⟨r1,r2,λp s h1 h2=>?_⟩
  rcases key id ob hi with e | e
  ·exact(hR2.row id ob e).2.2 p s h1 h2
  ·subst e;obtain⟨g1,g2⟩:=hset p s h1 h2;have sp:=hR.sep p o s so g2 g1 h2 hS hg;obtain⟨k,_⟩:=hR.obj o so hS hg
   rcases k.e with e | e<;>rw[e]
   ·exact⟨sp.xx.symm,sp.yx.symm⟩
   ·exact⟨sp.xy.symm,sp.yy.symm⟩
 ·intro id ob hi
  rcases key id ob hi with e | e
  ·exact hR.mM id ob e
  ·subst e;obtain⟨k,_⟩:=hR.obj o so hS hg;exact .inr (by rcases k.e with e | e<;>rw[e];exact k.x.1;exact k.y.1)
 ·rcases hf.get i with e | e
  ·rw[e];exact(hF.v i).mono hm
  ·exact(e.ok hR1 (hF.v i)).vs
mutual
def lU:SV->Bool
 | .a _=>true
 | .sl _ _ _=>true
 | .im _ _=>true
 | .ip _=>true
 | .any=>true
 | .e0 _=>true
 | .ag cs=>cm cs
 | .bC cs=>cm cs
 | .fn _ a b=>cm a&&cm b
 | .iface _ v=>lU v
 | _=>false
def cm:List SV->Bool
 | []=>true
 | d::ds=>lU d&&cm ds
end
mutual
def Wk.refl:∀{v:SV},lU v=true->Wk S v v
 | .a v,_=>.a v
 | .sl n e cs,_=>.sl n e cs
 | .im ks vs,_=>.im ks vs
 | .ip cs,_=>.ip cs
 | .any,_=>.any _
 | .e0 e,_=>.e0 e
 | .sub _ _ _ _ _,h=>by simp[lU] at h
 | .ag cs,h=>.ag (bl.refl (by rw[lU] at h;exact h))
 | .bC cs,h=>.bC (bl.refl (by rw[lU] at h;exact h))
 | .fn g a b,h=>by rw[lU,a3] at h;exact .fn (bl.refl h.1) (bl.refl h.2)
 | .iface t v,h=>.iface (Wk.refl (by rw[lU] at h;exact h))
 | .ptr _ _,h=>by simp[lU] at h
 | .map _,h=>by simp[lU] at h
 | .buf _ _ _ _,h=>by simp[lU] at h
def bl.refl:∀{vs:List SV},cm vs=true->bl S vs vs
 | [],_=>.nil
 | d::ds,h=>by rw[cm,a3] at h;exact .cons (Wk.refl h.1) (bl.refl h.2)
end
def bl.app:∀{a b c d:List SV},bl S a c->bl S b d->bl S (a++b) (c++d)
 | _,_,_,_,.nil,h=>h
 | _,_,_,_,.cons h1 h2,h=>.cons h1 (bl.app h2 h)
end
end
end Go.Ev
namespace Go.Proofs
open Go.Ev
section
variable (P:Program) (t:Nat)
abbrev fS(n:Nat)(z:List AV):Prop:=bQ P t=some (n,true)/\dm P t=some (.agg z)/\Ri P t=some none/\SH P t=none/\pP P t=true
abbrev fL(e n:Nat):Prop:=bQ P t=some (1,false)/\dm P t=some (.slice none 0 0 (some 0))/\Jn P t=some (e,n)/\SH P t=none/\iO P t=.sl/\pP P t=true
abbrev fA(n k e s:Nat)(z:AV):Prop:=bQ P t=some (n,true)/\dm P t=some (.agg (cR k z))/\SH P t=some (k,e,s)/\Ri P t=some (some s)/\iO P t=.other
abbrev fM(k e:Nat):Prop:=bQ P t=some (1,false)/\dm P t=some (.map none)/\cW P t=some (k,e)/\iO P t=.map
abbrev fT:Prop:=bQ P t=some (1,false)/\dm P t=some (.str [])/\iO P t=.str/\pP P t=true
abbrev fI(k:IntKind):Prop:=bQ P t=some (1,false)/\dm P t=some (.int k 0)/\pP P t=true/\iO P t=.other/\isInt P t=true
abbrev fB(z:AV):Prop:=bQ P t=some (1,false)/\dm P t=some z/\pP P t=true
end
abbrev WG(P:Program):Prop:=bQ P 1=some (1,false)/\fI P 2 .i64/\fI P 3 .i64/\fB P 4 (.bool false)/\fI P 5 .u8/\fT P 9/\fI P 21 .i32/\fL P 22 52 3/\fS P 23 1 [.slice none 0 0 (some 0)]/\aV P 23 0=some (0,22,1)/\fS P 24 1 [.slice none 0 0 (some 0)]/\aV P 24 0=some (0,22,1)/\fL P 25 27 3/\fS P 26 3 [.int .i64 0,.int .i64 0,.slice none 0 0 (some 0)]/\aV P 26 0=some (0,3,1)/\aV P 26 1=some (1,3,1)/\aV P 26 2=some (2,25,1)/\fS P 27 3 [.int .i64 0,.int .i64 0,.slice none 0 0 (some 0)]/\aV P 27 0=some (0,3,1)/\aV P 27 1=some (1,3,1)/\aV P 27 2=some (2,25,1)/\fS P 28 4 [.slice none 0 0 (some 0),.int .i64 0,.int .i64 0,.slice none 0 0 (some 0)]/\aV P 28 0=some (0,24,1)/\aV P 28 1=some (1,27,3)/\fS P 29 4 [.slice none 0 0 (some 0),.int .i64 0,.int .i64 0,.slice none 0 0 (some 0)]/\aV P 29 0=some (0,24,1)/\aV P 29 1=some (1,27,3)
def IA:WG a5:=by
 (repeat' apply ax)<;>kernel_rfl
abbrev WH(P:Program):Prop:=fL P 30 43 5/\fL P 31 61 2/\fL P 32 47 4/\bQ P 33=some (1,false)/\bQ P 34=some (1,false)/\fL P 35 45 3/\fI P 36 .i64/\bQ P 38=some (1,false)/\bQ P 39=some (1,false)/\bQ P 40=some (1,false)/\bQ P 41=some (1,false)/\fS P 42 5 [.str [],.str [],.int .i64 0,.int .i64 0,.int .i64 0]/\aV P 42 0=some (0,9,1)/\aV P 42 1=some (1,9,1)/\aV P 42 2=some (2,3,1)/\aV P 42 3=some (3,3,1)/\aV P 42 4=some (4,3,1)/\fS P 43 5 [.str [],.str [],.int .i64 0,.int .i64 0,.int .i64 0]/\aV P 43 0=some (0,9,1)/\aV P 43 1=some (1,9,1)/\aV P 43 2=some (2,3,1)/\aV P 43 3=some (3,3,1)/\aV P 43 4=some (4,3,1)/\fS P 44 3 [.str [],.str [],.int .i64 0]/\aV P 44 0=some (0,9,1)/\aV P 44 1=some (1,9,1)/\aV P 44 2=some (2,3,1)
def IB:WH a5:=by
 (repeat' apply ax)<;>kernel_rfl
abbrev WI(P:Program):Prop:=fS P 45 3 [.str [],.str [],.int .i64 0]/\aV P 45 0=some (0,9,1)/\aV P 45 1=some (1,9,1)/\aV P 45 2=some (2,3,1)/\fS P 46 4 [.str [],.str [],.int .i64 0,.int .i64 0]/\aV P 46 0=some (0,9,1)/\aV P 46 1=some (1,9,1)/\aV P 46 2=some (2,3,1)/\aV P 46 3=some (3,3,1)/\fS P 47 4 [.str [],.str [],.int .i64 0,.int .i64 0]/\aV P 47 0=some (0,9,1)/\aV P 47 1=some (1,9,1)/\aV P 47 2=some (2,3,1)/\aV P 47 3=some (3,3,1)/\bQ P 48=some (1,false)/\bQ P 49=some (1,false)/\fL P 50 137 3/\fS P 51 3 [.str [],.bool false,.slice none 0 0 (some 0)]/\aV P 51 0=some (0,9,1)/\aV P 51 1=some (1,4,1)/\aV P 51 2=some (2,50,1)/\fS P 52 3 [.str [],.bool false,.slice none 0 0 (some 0)]/\aV P 52 0=some (0,9,1)/\aV P 52 1=some (1,4,1)/\aV P 52 2=some (2,50,1)
def IC:WI a5:=by
 (repeat' apply ax)<;>kernel_rfl
abbrev WJ(P:Program):Prop:=fS P 53 2 [.int .i64 0,.int .i64 0]/\aV P 53 0=some (0,3,1)/\aV P 53 1=some (1,3,1)/\fS P 54 2 [.int .i64 0,.int .i64 0]/\aV P 54 0=some (0,3,1)/\aV P 54 1=some (1,3,1)/\fS P 55 6 [.int .i64 0,.int .i64 0,.int .i64 0,.int .i64 0,.int .i64 0,.int .i64 0]/\aV P 55 0=some (0,54,2)/\aV P 55 1=some (2,54,2)/\aV P 55 2=some (4,54,2)/\fS P 56 6 [.int .i64 0,.int .i64 0,.int .i64 0,.int .i64 0,.int .i64 0,.int .i64 0]/\aV P 56 0=some (0,54,2)/\aV P 56 1=some (2,54,2)/\aV P 56 2=some (4,54,2)/\fS P 57 14 [.int .i64 0,.int .i64 0,.str [],.str [],.str [],.str [],.str [],.str [],.int .i64 0,.int .i64 0,.int .i64 0,.int .i64 0,.int .i64 0,.int .i64 0]/\aV P 57 0=some (0,3,1)/\aV P 57 1=some (1,3,1)/\aV P 57 2=some (2,9,1)/\aV P 57 3=some (3,9,1)/\aV P 57 4=some (4,9,1)/\aV P 57 5=some (5,9,1)/\aV P 57 6=some (6,9,1)/\aV P 57 7=some (7,9,1)/\aV P 57 8=some (8,56,6)/\fS P 58 14 [.int .i64 0,.int .i64 0,.str [],.str [],.str [],.str [],.str [],.str [],.int .i64 0,.int .i64 0,.int .i64 0,.int .i64 0,.int .i64 0,.int .i64 0]/\aV P 58 0=some (0,3,1)/\aV P 58 1=some (1,3,1)/\aV P 58 2=some (2,9,1)/\aV P 58 3=some (3,9,1)/\aV P 58 4=some (4,9,1)/\aV P 58 5=some (5,9,1)/\aV P 58 6=some (6,9,1)/\aV P 58 7=some (7,9,1)/\aV P 58 8=some (8,56,6)
def ID:WJ a5:=by
 (repeat' apply ax)<;>kernel_rfl
abbrev WK(P:Program):Prop:=fL P 59 58 14/\fS P 60 2 [.slice none 0 0 (some 0),.bool false]/\aV P 60 0=some (0,59,1)/\aV P 60 1=some (1,4,1)/\fS P 61 2 [.slice none 0 0 (some 0),.bool false]/\aV P 61 0=some (0,59,1)/\aV P 61 1=some (1,4,1)/\bQ P 62=some (1,false)/\bQ P 63=some (1,false)/\bQ P 64=some (1,false)/\bQ P 65=some (1,false)/\fL P 66 86 2/\bQ P 68=some (1,false)/\fL P 69 174 2/\fS P 70 6 [.int .i64 0,.int .i64 0,.int .i64 0,.int .i64 0,.int .i64 0,.int .i64 0]/\aV P 70 0=some (0,54,2)/\aV P 70 1=some (2,54,2)/\aV P 70 2=some (4,54,2)/\fS P 71 6 [.int .i64 0,.int .i64 0,.int .i64 0,.int .i64 0,.int .i64 0,.int .i64 0]/\aV P 71 0=some (0,54,2)/\aV P 71 1=some (2,54,2)/\aV P 71 2=some (4,54,2)/\fS P 72 14 [.str [],.str [],.str [],.str [],.int .i64 0,.int .i64 0,.bool false,.slice none 0 0 (some 0),.int .i64 0,.int .i64 0,.int .i64 0,.int .i64 0,.int .i64 0,.int .i64 0]/\aV P 72 0=some (0,9,1)/\aV P 72 1=some (1,9,1)/\aV P 72 2=some (2,9,1)/\aV P 72 3=some (3,9,1)/\aV P 72 4=some (4,3,1)/\aV P 72 5=some (5,3,1)/\aV P 72 6=some (6,4,1)/\aV P 72 7=some (7,69,1)/\aV P 72 8=some (8,71,6)
def IE:WK a5:=by
 (repeat' apply ax)<;>kernel_rfl
abbrev WL(P:Program):Prop:=fS P 73 14 [.str [],.str [],.str [],.str [],.int .i64 0,.int .i64 0,.bool false,.slice none 0 0 (some 0),.int .i64 0,.int .i64 0,.int .i64 0,.int .i64 0,.int .i64 0,.int .i64 0]/\aV P 73 0=some (0,9,1)/\aV P 73 1=some (1,9,1)/\aV P 73 2=some (2,9,1)/\aV P 73 3=some (3,9,1)/\aV P 73 4=some (4,3,1)/\aV P 73 5=some (5,3,1)/\aV P 73 6=some (6,4,1)/\aV P 73 7=some (7,69,1)/\aV P 73 8=some (8,71,6)/\fL P 74 73 14/\fS P 75 1 [.slice none 0 0 (some 0)]/\aV P 75 0=some (0,74,1)/\fS P 76 1 [.slice none 0 0 (some 0)]/\aV P 76 0=some (0,74,1)/\bQ P 78=some (1,false)/\bQ P 79=some (1,false)/\bQ P 80=some (1,false)/\fM P 81 95 3/\fM P 82 95 3/\bQ P 84=some (1,false)/\fS P 85 2 [.str [],.int .i64 0]/\aV P 85 0=some (0,9,1)/\aV P 85 1=some (1,3,1)/\fS P 86 2 [.str [],.int .i64 0]/\aV P 86 0=some (0,9,1)/\aV P 86 1=some (1,3,1)
def IF:WL a5:=by
 (repeat' apply ax)<;>kernel_rfl
abbrev WM(P:Program):Prop:=bQ P 87=some (1,false)/\bQ P 88=some (1,false)/\bQ P 89=some (1,false)/\bQ P 90=some (1,false)/\bQ P 91=some (1,false)/\bQ P 92=some (1,false)/\bQ P 93=some (1,false)/\fS P 94 2 [.str [],.str []]/\aV P 94 0=some (0,9,1)/\aV P 94 1=some (1,9,1)/\fS P 95 2 [.str [],.str []]/\aV P 95 0=some (0,9,1)/\aV P 95 1=some (1,9,1)/\bQ P 96=some (1,false)/\bQ P 97=some (1,false)/\bQ P 98=some (1,false)/\bQ P 99=some (1,false)/\fM P 100 9 3/\fM P 101 9 3/\bQ P 103=some (1,false)/\bQ P 104=some (1,false)/\bQ P 105=some (1,false)/\bQ P 106=some (1,false)/\bQ P 107=some (1,false)/\bQ P 109=some (1,false)
def IG:WM a5:=by
 (repeat' apply ax)<;>kernel_rfl
abbrev WN(P:Program):Prop:=fL P 110 9 1/\bQ P 111=some (1,false)/\bQ P 112=some (1,false)/\bQ P 113=some (1,false)/\bQ P 114=some (1,false)/\bQ P 115=some (1,false)/\fB P 116 (.ptr none)/\bQ P 117=some (1,false)/\fM P 118 58 4/\fL P 119 3 1/\bQ P 120=some (1,false)/\fL P 121 119 1/\bQ P 123=some (1,false)/\fL P 124 101 1/\bQ P 126=some (1,false)/\bQ P 127=some (1,false)/\fL P 128 35 1/\bQ P 129=some (1,false)/\bQ P 130=some (1,false)/\bQ P 131=some (1,false)/\bQ P 132=some (1,false)/\fA P 133 256 256 5 1 (.int .u8 0)/\bQ P 134=some (1,false)/\bQ P 135=some (1,false)/\fS P 136 3 [.str [],.slice none 0 0 (some 0),.int .i64 0]/\aV P 136 0=some (0,9,1)/\aV P 136 1=some (1,110,1)/\aV P 136 2=some (2,3,1)
def IH:WN a5:=by
 (repeat' apply ax)<;>kernel_rfl
abbrev WO(P:Program):Prop:=fS P 137 3 [.str [],.slice none 0 0 (some 0),.int .i64 0]/\aV P 137 0=some (0,9,1)/\aV P 137 1=some (1,110,1)/\aV P 137 2=some (2,3,1)/\bQ P 138=some (1,false)/\bQ P 140=some (1,false)/\bQ P 142=some (1,false)/\bQ P 143=some (1,false)/\bQ P 144=some (1,false)/\bQ P 146=some (1,false)/\bQ P 147=some (1,false)/\bQ P 148=some (1,false)/\bQ P 149=some (1,false)/\bQ P 150=some (1,false)/\fM P 151 9 4/\bQ P 153=some (1,false)/\bQ P 154=some (1,false)/\bQ P 155=some (1,false)/\bQ P 156=some (1,false)/\bQ P 157=some (1,false)/\fS P 158 2 [.slice none 0 0 (some 0),.map none]/\aV P 158 0=some (0,74,1)/\aV P 158 1=some (1,100,1)/\fS P 159 2 [.slice none 0 0 (some 0),.map none]/\aV P 159 0=some (0,74,1)/\aV P 159 1=some (1,100,1)
def II:WO a5:=by
 (repeat' apply ax)<;>kernel_rfl
abbrev WQ(P:Program):Prop:=bQ P 160=some (1,false)/\bQ P 161=some (1,false)/\bQ P 162=some (1,false)/\bQ P 163=some (1,false)/\bQ P 164=some (1,false)/\bQ P 165=some (1,false)/\bQ P 167=some (1,false)/\bQ P 168=some (1,false)/\bQ P 169=some (1,false)/\bQ P 170=some (1,false)/\bQ P 171=some (1,false)/\bQ P 172=some (1,false)/\fS P 173 2 [.str [],.str []]/\aV P 173 0=some (0,9,1)/\aV P 173 1=some (1,9,1)/\fS P 174 2 [.str [],.str []]/\aV P 174 0=some (0,9,1)/\aV P 174 1=some (1,9,1)/\bQ P 175=some (1,false)/\fM P 177 9 9/\bQ P 178=some (1,false)/\fL P 179 54 2/\bQ P 180=some (1,false)/\fS P 181 6 [.int .i64 0,.int .i64 0,.int .i64 0,.int .i64 0,.int .i64 0,.int .i64 0]/\aV P 181 0=some (0,56,6)
def IJ:WQ a5:=by
 (repeat' apply ax)<;>kernel_rfl
abbrev VU(P:Program):Prop:=fS P 182 6 [.int .i64 0,.int .i64 0,.int .i64 0,.int .i64 0,.int .i64 0,.int .i64 0]/\aV P 182 0=some (0,56,6)/\bQ P 183=some (1,false)/\bQ P 184=some (1,false)/\bQ P 185=some (1,false)/\fB P 186 (.ptr none)/\fA P 187 3 3 186 1 (.ptr none)/\bQ P 188=some (1,false)/\fB P 189 (.ptr none)/\bQ P 190=some (1,false)/\fL P 191 3 1/\bQ P 193=some (1,false)/\bQ P 194=some (1,false)/\bQ P 195=some (1,false)/\bQ P 196=some (1,false)/\bQ P 197=some (1,false)/\bQ P 198=some (1,false)/\bQ P 199=some (1,false)/\fI P 201 .u64/\bQ P 204=some (1,false)/\bQ P 205=some (1,false)/\bQ P 206=some (1,false)/\bQ P 207=some (1,false)/\bQ P 208=some (1,false)/\fI P 209 .u64
def DF:VU a5:=by
 (repeat' apply ax)<;>kernel_rfl
abbrev VV(P:Program):Prop:=bQ P 210=some (1,false)/\fS P 211 2 [.fw,.fw]/\aV P 211 0=some (0,130,1)/\aV P 211 1=some (1,205,1)/\fS P 212 2 [.fw,.fw]/\aV P 212 0=some (0,130,1)/\aV P 212 1=some (1,205,1)/\bQ P 213=some (1,false)/\bQ P 214=some (1,false)/\fM P 216 9 214/\bQ P 217=some (1,false)/\bQ P 218=some (1,false)/\bQ P 219=some (1,false)/\bQ P 220=some (1,false)/\fM P 221 224 4/\bQ P 222=some (1,false)/\fS P 223 2 [.str [],.str []]/\aV P 223 0=some (0,9,1)/\aV P 223 1=some (1,9,1)/\fS P 224 2 [.str [],.str []]/\aV P 224 0=some (0,9,1)/\aV P 224 1=some (1,9,1)/\bQ P 225=some (1,false)/\bQ P 226=some (1,false)/\bQ P 227=some (1,false)
def DG:VV a5:=by
 (repeat' apply ax)<;>kernel_rfl
abbrev VW(P:Program):Prop:=bQ P 228=some (1,false)/\bQ P 229=some (1,false)/\bQ P 230=some (1,false)/\bQ P 231=some (1,false)/\bQ P 233=some (1,false)/\bQ P 234=some (1,false)/\bQ P 235=some (1,false)/\bQ P 236=some (1,false)/\bQ P 237=some (1,false)/\bQ P 238=some (1,false)/\bQ P 239=some (1,false)/\bQ P 240=some (1,false)/\bQ P 241=some (1,false)/\bQ P 242=some (1,false)/\bQ P 243=some (1,false)/\bQ P 244=some (1,false)/\bQ P 245=some (1,false)/\bQ P 246=some (1,false)/\fI P 247 .i64/\fA P 248 8 8 9 1 (.str [])/\bQ P 249=some (1,false)/\bQ P 250=some (1,false)/\bQ P 251=some (1,false)/\bQ P 252=some (1,false)/\bQ P 253=some (1,false)
def DH:VW a5:=by
 (repeat' apply ax)<;>kernel_rfl
abbrev VX(P:Program):Prop:=bQ P 254=some (1,false)/\fS P 255 1 [.ptr none]/\aV P 255 0=some (0,17,1)/\fS P 256 1 [.ptr none]/\aV P 256 0=some (0,17,1)/\fB P 257 (.ptr none)/\bQ P 258=some (1,false)/\fI P 259 .u32/\bQ P 260=some (1,false)/\fI P 261 .u64/\bQ P 262=some (1,false)/\fI P 263 .i64/\bQ P 265=some (1,false)/\bQ P 266=some (1,false)/\bQ P 267=some (1,false)/\bQ P 268=some (1,false)/\bQ P 269=some (1,false)/\bQ P 270=some (1,false)/\bQ P 271=some (1,false)/\bQ P 272=some (1,false)/\bQ P 273=some (1,false)/\bQ P 274=some (1,false)/\bQ P 275=some (1,false)/\bQ P 276=some (1,false)/\bQ P 277=some (1,false)
def DI:VX a5:=by
 (repeat' apply ax)<;>kernel_rfl
abbrev VY(P:Program):Prop:=bQ P 278=some (1,false)/\bQ P 279=some (1,false)/\bQ P 280=some (1,false)/\bQ P 281=some (1,false)/\bQ P 282=some (1,false)/\bQ P 283=some (1,false)/\bQ P 284=some (1,false)/\fI P 285 .i64/\bQ P 287=some (1,false)/\bQ P 288=some (1,false)/\bQ P 289=some (1,false)/\bQ P 290=some (1,false)/\bQ P 291=some (1,false)/\bQ P 292=some (1,false)/\bQ P 293=some (1,false)/\fL P 294 110 1/\bQ P 295=some (1,false)/\bQ P 296=some (1,false)/\bQ P 297=some (1,false)/\bQ P 298=some (1,false)/\bQ P 299=some (1,false)/\bQ P 300=some (1,false)/\bQ P 301=some (1,false)/\bQ P 302=some (1,false)/\fI P 303 .u64
def DJ:VY a5:=by
 (repeat' apply ax)<;>kernel_rfl
abbrev VZ(P:Program):Prop:=bQ P 304=some (1,false)/\bQ P 305=some (1,false)/\bQ P 306=some (1,false)/\fB P 307 (.ptr none)/\bQ P 308=some (1,false)/\bQ P 309=some (1,false)/\bQ P 310=some (1,false)/\bQ P 311=some (1,false)/\bQ P 312=some (1,false)/\fI P 313 .u64/\bQ P 314=some (1,false)/\bQ P 315=some (1,false)/\fL P 316 247 1/\bQ P 317=some (1,false)/\bQ P 318=some (1,false)/\fL P 319 321 15/\fS P 320 15 [.int .i64 0,.int .i64 0,.str [],.str [],.str [],.str [],.str [],.str [],.int .i64 0,.int .i64 0,.int .i64 0,.int .i64 0,.int .i64 0,.int .i64 0,.int .i64 0]/\aV P 320 0=some (0,58,14)/\aV P 320 1=some (14,3,1)/\fS P 321 15 [.int .i64 0,.int .i64 0,.str [],.str [],.str [],.str [],.str [],.str [],.int .i64 0,.int .i64 0,.int .i64 0,.int .i64 0,.int .i64 0,.int .i64 0,.int .i64 0]/\aV P 321 0=some (0,58,14)/\aV P 321 1=some (14,3,1)/\bQ P 322=some (1,false)/\bQ P 323=some (1,false)/\bQ P 324=some (1,false)
def DK:VZ a5:=by
 (repeat' apply ax)<;>kernel_rfl
abbrev V3(P:Program):Prop:=fB P 325 (.ptr none)/\bQ P 327=some (1,false)/\bQ P 328=some (1,false)/\bQ P 329=some (1,false)/\fB P 330 (.ptr none)/\bQ P 331=some (1,false)/\bQ P 332=some (1,false)/\bQ P 333=some (1,false)/\bQ P 334=some (1,false)/\bQ P 335=some (1,false)/\bQ P 336=some (1,false)/\fS P 337 4 [.ptr none,.ptr none,.ptr none,.str []]/\aV P 337 0=some (0,17,1)/\aV P 337 1=some (1,17,1)/\aV P 337 2=some (2,17,1)/\aV P 337 3=some (3,9,1)/\fS P 338 4 [.ptr none,.ptr none,.ptr none,.str []]/\aV P 338 0=some (0,17,1)/\aV P 338 1=some (1,17,1)/\aV P 338 2=some (2,17,1)/\aV P 338 3=some (3,9,1)/\fA P 339 0 0 16 1 (.ptr none)/\fS P 340 0 []/\aV P 340 0=some (0,339,0)/\fS P 341 0 []/\aV P 341 0=some (0,339,0)
def DL:V3 a5:=by
 (repeat' apply ax)<;>kernel_rfl
abbrev V4(P:Program):Prop:=fI P 342 .u8/\fI P 343 .u8/\bQ P 344=some (1,false)/\fB P 345 (.ptr none)/\fI P 346 .i32/\fI P 347 .i32/\fS P 348 11 [.int .u64 0,.int .u64 0,.int .u32 0,.int .u8 0,.int .u8 0,.int .u8 0,.int .u8 0,.fw,.ptr none,.int .i32 0,.int .i32 0]/\aV P 348 0=some (0,12,1)/\aV P 348 1=some (1,12,1)/\aV P 348 2=some (2,259,1)/\aV P 348 3=some (3,342,1)/\aV P 348 4=some (4,5,1)/\aV P 348 5=some (5,5,1)/\aV P 348 6=some (6,343,1)/\aV P 348 7=some (7,344,1)/\aV P 348 8=some (8,345,1)/\aV P 348 9=some (9,346,1)/\aV P 348 10=some (10,347,1)/\fS P 349 11 [.int .u64 0,.int .u64 0,.int .u32 0,.int .u8 0,.int .u8 0,.int .u8 0,.int .u8 0,.fw,.ptr none,.int .i32 0,.int .i32 0]/\aV P 349 0=some (0,12,1)/\aV P 349 1=some (1,12,1)/\aV P 349 2=some (2,259,1)/\aV P 349 3=some (3,342,1)/\aV P 349 4=some (4,5,1)/\aV P 349 5=some (5,5,1)/\aV P 349 6=some (6,343,1)/\aV P 349 7=some (7,344,1)/\aV P 349 8=some (8,345,1)/\aV P 349 9=some (9,346,1)/\aV P 349 10=some (10,347,1)
def DM:V4 a5:=by
 (repeat' apply ax)<;>kernel_rfl
abbrev V5(P:Program):Prop:=fI P 350 .i64/\bQ P 351=some (1,false)/\bQ P 353=some (1,false)/\fS P 354 2 [.str [],.int .u8 0]/\aV P 354 0=some (0,9,1)/\aV P 354 1=some (1,343,1)/\fS P 355 2 [.str [],.int .u8 0]/\aV P 355 0=some (0,9,1)/\aV P 355 1=some (1,343,1)
def DN:V5 a5:=by
 (repeat' apply ax)<;>kernel_rfl
def an:type_of% IA/\type_of% IB/\type_of% IC/\type_of% ID/\type_of% IE/\type_of% IF/\type_of% IG/\type_of% IH/\type_of% II/\type_of% IJ/\type_of% DF/\type_of% DG/\type_of% DH/\type_of% DI/\type_of% DJ/\type_of% DK/\type_of% DL/\type_of% DM/\type_of% DN:=⟨IA,IB,IC,ID,IE,IF,IG,IH,II,IJ,DF,DG,DH,DI,DJ,DK,DL,DM,DN⟩
end Go.Proofs
namespace Go.Ev
section
variable {P:Program} {f:Fm} {S:List SO} {o:Nat}
def jr(v:AV):names o (.a v)=false:=by rw[names];all_goals (intros;contradiction)
def AB(n e:Nat)(cs:List SV):names o (.sl n e cs)=false:=by rw[names];all_goals (intros;contradiction)
def Az(ks:List AV)(vs:List SV):names o (.im ks vs)=false:=by rw[names];all_goals (intros;contradiction)
def AA(cs:List SV):names o (.ip cs)=false:=by rw[names];all_goals (intros;contradiction)
def wj:names o .any=false:=by rw[names];all_goals (intros;contradiction)
def Lp(k:IntKind)(n:Int):cP (.a (.int k n))=some [.a (.int k n)]:=rfl
def Lq(s:List Nat):cP (.a (.str s))=some [.a (.str s)]:=rfl
def Lo(b:Bool):cP (.a (.bool b))=some [.a (.bool b)]:=rfl
def Cp(o:Option (Nat×Nat))(n e:Nat)(c:Option Nat):cP (.a (.slice o n e c))=some [.a (.slice o n e c)]:=rfl
def Gp(n e:Nat)(cs:List SV):cP (.sl n e cs)=some [.sl n e cs]:=rfl
def Gm(ks:List AV)(vs:List SV):cP (.im ks vs)=some [.im ks vs]:=rfl
def Gn(cs:List SV):cP (.ip cs)=some [.ip cs]:=rfl
def za(o off:Nat):cP (.ptr o off)=some [.ptr o off]:=rfl
def y9(o:Nat):cP (.map o)=some [.map o]:=rfl
def Ay(e:Nat):names o (.e0 e)=false:=by rw[names];all_goals (intros;contradiction)
def Cu(o off n e:Nat)(c:Option Nat):cP (.sub o off n e c)=some [.sub o off n e c]:=rfl
def Gk(e:Nat):cP (.e0 e)=some [.e0 e]:=rfl
def Cs(o n e:Nat)(c:Option Nat):cP (.buf o n e c)=some [.buf o n e c]:=rfl
def Ct(g:FuncId)(a b:List SV):cP (.fn g a b)=some [.fn g a b]:=rfl
def Gl(t:TypeId)(v:SV):cP (.iface t v)=some [.iface t v]:=rfl
def LX(n e:Nat)(cs:List SV):ef (.sl n e cs)=true:=rfl
def LV(ks:List AV)(vs:List SV):ef (.im ks vs)=true:=rfl
def LW(cs:List SV):ef (.ip cs)=true:=rfl
def Hp(o off:Nat):ef (.ptr o off)=true:=rfl
def Ho(o:Nat):ef (.map o)=true:=rfl
def Hq(o off n e:Nat)(c:Option Nat):ef (.sub o off n e c)=true:=rfl
def LR(e:Nat):ef (.e0 e)=true:=rfl
def Hn(o n e:Nat)(c:Option Nat):ef (.buf o n e c)=true:=rfl
def LS(g:FuncId)(a b:List SV):ef (.fn g a b)=true:=rfl
def LU(t:TypeId)(v:SV):ef (.iface t v)=true:=rfl
def PT(k:IntKind)(n:Int):ke (.int k n)=true:=rfl
def PU(s:List Nat):ke (.str s)=true:=rfl
def PS(b:Bool):ke (.bool b)=true:=rfl
def LQ(o:Option (Nat×Nat))(n e:Nat)(c:Option Nat):ke (.slice o n e c)=true:=rfl
def Tk(k:IntKind)(n:Int):A6 (.int k n)=.a (.int k n):=rfl
def Tl(s:List Nat):A6 (.str s)=.a (.str s):=rfl
def Tj(b:Bool):A6 (.bool b)=.a (.bool b):=rfl
def QM(o:Option (Nat×Nat))(n e:Nat)(c:Option Nat):A6 (.slice o n e c)=.a (.slice o n e c):=rfl
def Mp(o:Option (Nat×Nat)):A6 (.ptr o)=.a (.ptr o):=rfl
def Mo(o:Option Nat):A6 (.map o)=.a (.map o):=rfl
def QK:A6 .fw=.a .fw:=rfl
def aX(v w:SV)(l:List SV):df (v::w::l)=.bC (v::w::l):=rfl
def QC(x:Operand)(aS:Array Operand)(ats:Array TypeId):cT P f S (.call { callee:=.value x,args:=aS,argTypes:=ats })=none:=rfl
def QB(x:Operand)(m:String)(aS:Array Operand)(ats:Array TypeId):cT P f S (.call { callee:=.invoke x m,args:=aS,argTypes:=ats })=none:=rfl
def lJ(k:IntKind)(n:Nat):de (.int k (n:Int))=some n:=rfl
def C4(k:IntKind)(n:Nat):de (.int k (OfNat.ofNat n))=some n:=rfl
def Cq(cs:List AV):(AV.agg cs).cells=cs:=rfl
def Vb:(type_of% (@nN.eq_1))/\(type_of% (@nN.eq_2))/\(type_of% (@cT.eq_1))/\(type_of% (@cT.eq_2))/\(type_of% (@cT.eq_3))/\(type_of% (@cT.eq_4))/\(type_of% (@cT.eq_5))/\(type_of% (@cT.eq_6))/\(type_of% (@cT.eq_7))/\(type_of% (@cT.eq_8))/\(type_of% (@cT.eq_9))/\(type_of% (@cT.eq_10))/\(type_of% (@cT.eq_11))/\(type_of% (@cT.eq_12))/\(type_of% (@cT.eq_13))/\(type_of% (@cT.eq_14))/\(type_of% (@cT.eq_15))/\(type_of% (@cT.eq_16))/\(type_of% (@cT.eq_17))/\(type_of% (@cT.eq_18))/\(type_of% (@cT.eq_19))/\(type_of% (@cT.eq_20))/\(type_of% (@cT.eq_21))/\(type_of% (@cT.eq_22))/\(type_of% (@cT.eq_23))/\(type_of% (@cT.eq_24))/\(type_of% (@cT.eq_25))/\(type_of% (@cT.eq_26))/\(type_of% (@cT.eq_27))/\(type_of% (@uo.eq_1))/\(type_of% (@uo.eq_2))/\(type_of% (@sG.eq_1))/\(type_of% (@aO.eq_1))/\(type_of% (@aO.eq_2))/\(type_of% (@sn.eq_1))/\(type_of% (@sn.eq_2))/\(type_of% (@jw.eq_1))/\(type_of% (@jw.eq_2))/\(type_of% (@cg.eq_1))/\(type_of% (@cg.eq_2)):=
 ⟨@nN.eq_1,@nN.eq_2,@cT.eq_1,@cT.eq_2,@cT.eq_3,@cT.eq_4,@cT.eq_5,@cT.eq_6,@cT.eq_7,@cT.eq_8,@cT.eq_9,@cT.eq_10,@cT.eq_11,@cT.eq_12,@cT.eq_13,@cT.eq_14,@cT.eq_15,@cT.eq_16,@cT.eq_17,@cT.eq_18,@cT.eq_19,@cT.eq_20,@cT.eq_21,@cT.eq_22,@cT.eq_23,@cT.eq_24,@cT.eq_25,@cT.eq_26,@cT.eq_27,@uo.eq_1,@uo.eq_2,@sG.eq_1,@aO.eq_1,@aO.eq_2,@sn.eq_1,@sn.eq_2,@jw.eq_1,@jw.eq_2,@cg.eq_1,@cg.eq_2⟩
def Vc:(type_of% (@DO.eq_1))/\(type_of% (@DO.eq_2))/\(type_of% (@eI.eq_1))/\(type_of% (@eI.eq_2))/\(type_of% (@eI.eq_3))/\(type_of% (@eI.eq_4))/\(type_of% (@nw.eq_1))/\(type_of% (@nw.eq_2))/\(type_of% (@kj.eq_1))/\(type_of% (@kj.eq_2))/\(type_of% (@uT.eq_1))/\(type_of% (@uT.eq_2))/\(type_of% (@qN.eq_1))/\(type_of% (@qN.eq_2))/\(type_of% (@y5.eq_1))/\(type_of% (@lA.eq_1))/\(type_of% (@cE.eq_1))/\(type_of% (@cE.eq_2))/\(type_of% (@cE.eq_3))/\(type_of% (@ia.eq_1))/\(type_of% (@ia.eq_2))/\(type_of% (@JR.eq_1))/\(type_of% (@sY.eq_1))/\(type_of% (@sY.eq_2))/\(type_of% (@sY.eq_3))/\(type_of% (@qw.eq_1))/\(type_of% (@qw.eq_2))/\(type_of% (@qw.eq_3))/\(type_of% (@qw.eq_4))/\(type_of% (@qw.eq_5))/\(type_of% (@ot.eq_1))/\(type_of% (@ot.eq_2))/\(type_of% (@ot.eq_3))/\(type_of% (@dx.eq_1))/\(type_of% (@gS.eq_1))/\(type_of% (@x7.eq_1))/\(type_of% (@x7.eq_2))/\(type_of% (@dK.eq_1)):=
 ⟨@DO.eq_1,@DO.eq_2,@eI.eq_1,@eI.eq_2,@eI.eq_3,@eI.eq_4,@nw.eq_1,@nw.eq_2,@kj.eq_1,@kj.eq_2,@uT.eq_1,@uT.eq_2,@qN.eq_1,@qN.eq_2,@y5.eq_1,@lA.eq_1,@cE.eq_1,@cE.eq_2,@cE.eq_3,@ia.eq_1,@ia.eq_2,@JR.eq_1,@sY.eq_1,@sY.eq_2,@sY.eq_3,@qw.eq_1,@qw.eq_2,@qw.eq_3,@qw.eq_4,@qw.eq_5,@ot.eq_1,@ot.eq_2,@ot.eq_3,@dx.eq_1,@gS.eq_1,@x7.eq_1,@x7.eq_2,@dK.eq_1⟩
def Vd:(type_of% (@dK.eq_2))/\(type_of% (@dK.eq_3))/\(type_of% (@dK.eq_4))/\(type_of% (@dK.eq_5))/\(type_of% (@Hx.eq_1))/\(type_of% (@A2.eq_1))/\(type_of% (@cI.eq_1))/\(type_of% (@cI.eq_2))/\(type_of% (@cI.eq_3))/\(type_of% (@cI.eq_4))/\(type_of% (@cI.eq_5))/\(type_of% (@mT.eq_1))/\(type_of% (@vP.eq_1))/\(type_of% (@mZ.eq_1))/\(type_of% (@Ae.eq_1))/\(type_of% (@gw.eq_1))/\(type_of% (@gw.eq_2))/\(type_of% (@gw.eq_3))/\(type_of% (@gw.eq_4))/\(type_of% (@bO.eq_1))/\(type_of% (@bO.eq_2))/\(type_of% (@bO.eq_3))/\(type_of% (@bO.eq_4))/\(type_of% (@bO.eq_5))/\(type_of% (@bO.eq_6))/\(type_of% (@bO.eq_7))/\(type_of% (@di.eq_1))/\(type_of% (@nk.eq_1))/\(type_of% (@nk.eq_2))/\(type_of% (@nk.eq_3))/\(type_of% (@df.eq_1))/\(type_of% (@gM.eq_1))/\(type_of% (@A6.eq_1))/\(type_of% (@cP.eq_1))/\(type_of% (@cP.eq_2))/\(type_of% (@cP.eq_3))/\(type_of% (@ef.eq_1))/\(type_of% (@ef.eq_2))/\(type_of% (@ef.eq_3))/\(type_of% (@ef.eq_4))/\(type_of% (@names.eq_1))/\(type_of% (@names.eq_2))/\(type_of% (@names.eq_3))/\(type_of% (@names.eq_4)):=
 ⟨@dK.eq_2,@dK.eq_3,@dK.eq_4,@dK.eq_5,@Hx.eq_1,@A2.eq_1,@cI.eq_1,@cI.eq_2,@cI.eq_3,@cI.eq_4,@cI.eq_5,@mT.eq_1,@vP.eq_1,@mZ.eq_1,@Ae.eq_1,@gw.eq_1,@gw.eq_2,@gw.eq_3,@gw.eq_4,@bO.eq_1,@bO.eq_2,@bO.eq_3,@bO.eq_4,@bO.eq_5,@bO.eq_6,@bO.eq_7,@di.eq_1,@nk.eq_1,@nk.eq_2,@nk.eq_3,@df.eq_1,@gM.eq_1,@A6.eq_1,@cP.eq_1,@cP.eq_2,@cP.eq_3,@ef.eq_1,@ef.eq_2,@ef.eq_3,@ef.eq_4,@names.eq_1,@names.eq_2,@names.eq_3,@names.eq_4⟩
def Ve:(type_of% (@names.eq_5))/\(type_of% (@names.eq_6))/\(type_of% (@names.eq_7))/\(type_of% (@gn.eq_1))/\(type_of% (@gn.eq_2))/\(type_of% (@aM.eq_1))/\(type_of% (@si.eq_1))/\(type_of% (@si.eq_2))/\(type_of% (@yP.eq_1))/\(type_of% (@yP.eq_2))/\(type_of% (@kC.eq_1))/\(type_of% (@kC.eq_2))/\(type_of% (@jr))/\(type_of% (@AB))/\(type_of% (@Az))/\(type_of% (@AA))/\(type_of% (@wj))/\(type_of% (@Cp))/\(type_of% (@Lp))/\(type_of% (@Lq))/\(type_of% (@Lo))/\(type_of% (@Gp))/\(type_of% (@Gm))/\(type_of% (@Gn))/\(type_of% (@Cs))/\(type_of% (@Gl))/\(type_of% (@LX))/\(type_of% (@LV))/\(type_of% (@LW))/\(type_of% (@Hp))/\(type_of% (@Ho))/\(type_of% (@Hn))/\(type_of% (@LS))/\(type_of% (@LU))/\(type_of% (@PT))/\(type_of% (@PU))/\(type_of% (@PS))/\(type_of% (@LQ))/\(type_of% (@Tk))/\(type_of% (@Tl)):=
 ⟨@names.eq_5,@names.eq_6,@names.eq_7,@gn.eq_1,@gn.eq_2,@aM.eq_1,@si.eq_1,@si.eq_2,@yP.eq_1,@yP.eq_2,@kC.eq_1,@kC.eq_2,@jr,@AB,@Az,@AA,@wj,@Cp,@Lp,@Lq,@Lo,@Gp,@Gm,@Gn,@Cs,@Gl,@LX,@LV,@LW,@Hp,@Ho,@Hn,@LS,@LU,@PT,@PU,@PS,@LQ,@Tk,@Tl⟩
def Vf:(type_of% (@Tj))/\(type_of% (@QM))/\(type_of% (@Mp))/\(type_of% (@Mo))/\(type_of% (@QK))/\(type_of% (@aX))/\(type_of% (@QC))/\(type_of% (@QB))/\(type_of% (@lJ))/\(type_of% (@za))/\(type_of% (@y9))/\(type_of% (@Ct))/\(type_of% (@C4))/\(type_of% (@Cq))/\(type_of% (@Cr))/\(type_of% (@QT))/\(type_of% (@F8))/\(type_of% (@Gc))/\(type_of% (@Gb))/\(type_of% (@F9))/\(type_of% (@tN))/\(type_of% (@Ga))/\(type_of% ((λ{P:Program} {t:TypeId} {a b:Int}=>@yn P t a b _ qu)))/\(type_of% ((λ{P:Program} {t:TypeId} {a b:Int}=>@tM P t a b _ qu)))/\(type_of% ((λ{P:Program} {t:TypeId} {a b:Int}=>@ym P t a b _ qu)))/\(type_of% ((λ{P:Program} {t:TypeId} {a b:Int}=>@yl P t a b _ qu)))/\(type_of% ((λ{P:Program} {t:TypeId} {a b:Int}=>@tL P t a b _ qu)))/\(type_of% ((λ{P:Program} {t:TypeId} {a b:Int}=>@pN P t a b _ qu)))/\(type_of% ((λ{P:Program} {t:TypeId} {a b:Int}=>@yn P t a b _ x5)))/\(type_of% ((λ{P:Program} {t:TypeId} {a b:Int}=>@tM P t a b _ x5)))/\(type_of% ((λ{P:Program} {t:TypeId} {a b:Int}=>@ym P t a b _ x5)))/\(type_of% ((λ{P:Program} {t:TypeId} {a b:Int}=>@yl P t a b _ x5)))/\(type_of% ((λ{P:Program} {t:TypeId} {a b:Int}=>@tL P t a b _ x5)))/\(type_of% ((λ{P:Program} {t:TypeId} {a b:Int}=>@pN P t a b _ x5)))/\(type_of% (@names.eq_8))/\(type_of% (@qw.eq_6))/\(type_of% (@qw.eq_7))/\(type_of% (@ot.eq_4))/\(type_of% (@ot.eq_5))/\(type_of% (@cI.eq_6))/\(type_of% (@cI.eq_7))/\(type_of% (@gw.eq_6))/\(type_of% (@gw.eq_8))/\(type_of% (@gw.eq_9))/\(type_of% (@gw.eq_10))/\(type_of% (@dK.eq_6))/\(type_of% (@dK.eq_7))/\(type_of% (@dK.eq_8))/\(type_of% (@FY.eq_1))/\(type_of% (@FY.eq_2))/\(type_of% (@FY.eq_3))/\(type_of% (@BB.eq_1))/\(type_of% (@BB.eq_2))/\(type_of% (@BB.eq_3))/\(type_of% (@BB.eq_4))/\(type_of% (@Gs.eq_1))/\(type_of% (@Lu.eq_1))/\(type_of% (@ze.eq_1))/\(type_of% (@SJ.eq_1))/\(type_of% (@SJ.eq_2))/\(type_of% (@y8.eq_1))/\(type_of% (@y8.eq_2))/\(type_of% (@y8.eq_3))/\(type_of% (@y8.eq_4))/\(type_of% (@Ay))/\(type_of% (@Cu))/\(type_of% (@Gk))/\(type_of% (@Hq))/\(type_of% (@LR))/\(type_of% (@tJ.eq_1))/\(type_of% (@uy.eq_1)):=
 ⟨@Tj,@QM,@Mp,@Mo,@QK,@aX,@QC,@QB,@lJ,@za,@y9,@Ct,@C4,@Cq,@Cr,@QT,@F8,@Gc,@Gb,@F9,@tN,@Ga,(λ{P:Program} {t:TypeId} {a b:Int}=>@yn P t a b _ qu),(λ{P:Program} {t:TypeId} {a b:Int}=>@tM P t a b _ qu),(λ{P:Program} {t:TypeId} {a b:Int}=>@ym P t a b _ qu),(λ{P:Program} {t:TypeId} {a b:Int}=>@yl P t a b _ qu),(λ{P:Program} {t:TypeId} {a b:Int}=>@tL P t a b _ qu),(λ{P:Program} {t:TypeId} {a b:Int}=>@pN P t a b _ qu),(λ{P:Program} {t:TypeId} {a b:Int}=>@yn P t a b _ x5),(λ{P:Program} {t:TypeId} {a b:Int}=>@tM P t a b _ x5),(λ{P:Program} {t:TypeId} {a b:Int}=>@ym P t a b _ x5),(λ{P:Program} {t:TypeId} {a b:Int}=>@yl P t a b _ x5),(λ{P:Program} {t:TypeId} {a b:Int}=>@tL P t a b _ x5),(λ{P:Program} {t:TypeId} {a b:Int}=>@pN P t a b _ x5),@names.eq_8,@qw.eq_6,@qw.eq_7,@ot.eq_4,@ot.eq_5,@cI.eq_6,@cI.eq_7,@gw.eq_6,@gw.eq_8,@gw.eq_9,@gw.eq_10,@dK.eq_6,@dK.eq_7,@dK.eq_8,@FY.eq_1,@FY.eq_2,@FY.eq_3,@BB.eq_1,@BB.eq_2,@BB.eq_3,@BB.eq_4,@Gs.eq_1,@Lu.eq_1,@ze.eq_1,@SJ.eq_1,@SJ.eq_2,@y8.eq_1,@y8.eq_2,@y8.eq_3,@y8.eq_4,@Ay,@Cu,@Gk,@Hq,@LR,@tJ.eq_1,@uy.eq_1⟩
def bI:type_of% Vb/\type_of% Vc/\type_of% Vd/\type_of% Ve/\type_of% Vf:=⟨Vb,Vc,Vd,Ve,Vf⟩
end
noncomputable section
def kF:Op->Bool
 | .move _ | .assign _ | .pick _ _ _ | .build _ _ | .nilCheck _ | .binOp _ _ _ _ _ | .unOp _ _ _ | .convert _ _ _ | .fieldAddr _ _ _ | .field _ _ _ | .indexAddr _ _ _ | .index _ _ _ | .extract _ _ | .load _ _ | .lookup _ _ _ _ | .slice _ _ _ _ _=>true
 | .makeFunc (.func _) _ _=>true
 | .makeFunc (.method _) _ _=>true
 | .call { callee:=.builtin .len,.. }=>true
 | _=>false
def JC:Op->Bool
 | .load _ _ | .lookup _ _ _ _ | .call _ | .slice _ _ _ _ _=>true
 | _=>false
def QD{P:Program}{f:Fm}{S S':List SO}{op:Op}(hr:kF op=true){v:SV}{kill:Option Nat}(h:cT P f S op=some (v,S',kill)):S'=S/\kill=none:=by
 cases op with
 | move x=>obtain⟨_,_,e⟩:=ar h;cases e;exact⟨rfl,rfl⟩
 | assign x=>obtain⟨_,_,e⟩:=ar h;cases e;exact⟨rfl,rfl⟩
 | pick c a b=>obtain⟨_,_,e⟩:=ar h;cases e;exact⟨rfl,rfl⟩
 | build tt ps=>obtain⟨_,_,h⟩:=bind_eq_some_iff.1 h;obtain⟨_,_,e⟩:=ar h;cases e;exact⟨rfl,rfl⟩
 | nilCheck x=>obtain⟨_,_,h⟩:=bind_eq_some_iff.1 h;obtain⟨_,_,e⟩:=ar h;cases e;exact⟨rfl,rfl⟩
 | binOp op xt x y yt=>
  obtain⟨_,_,h⟩:=bind_eq_some_iff.1 h;obtain⟨_,_,h⟩:=bind_eq_some_iff.1 h;obtain⟨_,_,h⟩:=bind_eq_some_iff.1 h;obtain⟨_,_,h⟩:=bind_eq_some_iff.1 h;obtain⟨_,_,e⟩:=ar h;cases e;exact⟨rfl,rfl⟩
 | unOp op xt x=>
  obtain⟨_,_,h⟩:=bind_eq_some_iff.1 h;obtain⟨_,_,h⟩:=bind_eq_some_iff.1 h;obtain⟨_,_,e⟩:=ar h;cases e;exact⟨rfl,rfl⟩
 | convert s d x=>
  obtain⟨_,_,h⟩:=bind_eq_some_iff.1 h;obtain⟨_,_,h⟩:=bind_eq_some_iff.1 h;obtain⟨_,_,e⟩:=ar h;cases e;exact⟨rfl,rfl⟩
 | fieldAddr s x fl=>obtain⟨_,_,h⟩:=bind_eq_some_iff.1 h;obtain⟨_,_,e⟩:=ar h;cases e;exact⟨rfl,rfl⟩
 | field s x fl=>obtain⟨_,_,h⟩:=bind_eq_some_iff.1 h;obtain⟨_,_,e⟩:=ar h;cases e;exact⟨rfl,rfl⟩
 | indexAddr s x i=>
  obtain⟨_,_,h⟩:=bind_eq_some_iff.1 h;obtain⟨_,_,h⟩:=bind_eq_some_iff.1 h;obtain⟨_,_,e⟩:=ar h;cases e;exact⟨rfl,rfl⟩
 | index s x i=>
  obtain⟨_,_,h⟩:=bind_eq_some_iff.1 h;obtain⟨_,_,h⟩:=bind_eq_some_iff.1 h;obtain⟨_,_,e⟩:=ar h;cases e;exact⟨rfl,rfl⟩
 | extract x i=>
  simp only[cT] at h;split at h
  ·obtain⟨_,_,e⟩:=ar h;cases e;exact⟨rfl,rfl⟩
  ·cases h
 | makeFunc g first cap=>
  cases g with
  | func g=>obtain⟨_,_,h⟩:=bind_eq_some_iff.1 h;obtain⟨_,_,e⟩:=ar h;cases e;exact⟨rfl,rfl⟩
  | method nm=>
   obtain⟨_,_,h⟩:=bind_eq_some_iff.1 h;obtain⟨_,_,h⟩:=bind_eq_some_iff.1 h;obtain⟨_,_,h⟩:=bind_eq_some_iff.1 h;obtain⟨_,_,e⟩:=ar h;cases e;exact⟨rfl,rfl⟩
  | _=>simp[kF] at hr
 | load tt a=>obtain⟨_,_,h⟩:=bind_eq_some_iff.1 h;obtain⟨_,_,e⟩:=ar h;cases e;exact⟨rfl,rfl⟩
 | lookup tt x k ok=>
  obtain⟨_,_,h⟩:=bind_eq_some_iff.1 h;obtain⟨_,_,h⟩:=bind_eq_some_iff.1 h;obtain⟨_,_,e⟩:=ar h;cases e;exact⟨rfl,rfl⟩
 | slice tt x lo hi mx=>
  obtain⟨_,_,h⟩:=bind_eq_some_iff.1 h;obtain⟨_,_,h⟩:=bind_eq_some_iff.1 h;obtain⟨_,_,h⟩:=bind_eq_some_iff.1 h;obtain⟨_,_,h⟩:=bind_eq_some_iff.1 h;obtain⟨_,_,e⟩:=ar h;cases e;exact⟨rfl,rfl⟩
 | call c=>
  obtain⟨callee,aS,ats⟩:=c
  cases callee with
  | builtin b=>
   cases b with
   | len=>
    obtain⟨_,_,h⟩:=bind_eq_some_iff.1 h;rename_i vs _
    cases hats:ats.toList with
    | nil=>rw[hats] at h;cases h
    | cons tt l=>
     rw[hats] at h
     cases vs with
     | nil=>cases h
     | cons x l'=>
      have h:(qw P S tt x).map (λ(n:Nat)=>((SV.a (.int .i64 (n:Int)),S,none):SV×List SO×Option Nat))=some (v,S',kill):=h;obtain⟨_,_,e⟩:=ar h;cases e;exact⟨rfl,rfl⟩
   | _=>simp[kF] at hr
  | _=>simp[kF] at hr
 | _=>simp[kF] at hr
section
variable {θ:Nat->Loc} {ρ ρ0:kq} {P:Program}
mutual
def GG:∀{r:SV} {v:AV},cE r=some v->VS θ ρ r v
 | .a w,v,h=>by rw[cE] at h;cases h;rw[VS]
 | .ag cs,v,h=>by rw[cE] at h;obtain⟨aS,h1,rfl⟩:=ar h;rw[VS];exact⟨aS,rfl,ud h1⟩
 | .any,_,h=>by simp[cE] at h
 | .sl _ _ _,_,h=>by simp[cE] at h
 | .im _ _,_,h=>by simp[cE] at h
 | .ip _,_,h=>by simp[cE] at h
 | .ptr _ _,_,h=>by simp[cE] at h
 | .map _,_,h=>by simp[cE] at h
 | .buf _ _ _ _,_,h=>by simp[cE] at h
 | .sub _ _ _ _ _,_,h=>by simp[cE] at h
 | .e0 _,_,h=>by simp[cE] at h
 | .bC _,_,h=>by simp[cE] at h
 | .fn _ _ _,_,h=>by simp[cE] at h
 | .iface t w,v,h=>by rw[cE] at h;obtain⟨a,h1,rfl⟩:=ar h;rw[VS];exact⟨a,rfl,GG h1⟩
def ud:∀{rs:List SV} {vs:List AV},ia rs=some vs->cZ θ ρ rs vs
 | [],vs,h=>by rw[ia] at h;cases h;rw[aT]
 | d::ds,vs,h=>by
  rw[ia] at h;obtain⟨a,ha,h⟩:=bind_eq_some_iff.1 h;obtain⟨b,hb,rfl⟩:=ar h;rw[aJ];exact⟨a,b,rfl,GG ha,ud hb⟩
end
end
section
variable {P:Program} {ro:Option Nat} {Q:Ex->ez->Prop} {f f':Fm} {n:Nat} {S S':List SO} {ds:List ja}
def aq.Se{id:Nat}{ops:Array Oper}{l':List Oper}(hs:dJ ops.toList n ops.toList=true)(h:nN P ops.toList ops.toList f S=(l',f',S'))(hk:aG P ro ops.toList l' ⟨f',n,S',ds⟩ (Q .normal)):aq P ro (.region id ops false) ⟨f,n,S,ds⟩ Q:=.region (.run hs h hk)
def aq.r0{id:Nat}{ops:Array Oper}(hs:dJ ops.toList n ops.toList=true)(h:nN P ops.toList ops.toList f S=([],f',S'))(hk:Q .normal ⟨f',n,S',ds⟩):aq P ro (.region id ops false) ⟨f,n,S,ds⟩ Q:=.Se hs h (.nil hk)
def aG.r0{all l:List Oper}{K:ez->Prop}(hs:dJ all n l=true)(h:nN P all l f S=([],f',S'))(hk:K ⟨f',n,S',ds⟩):aG P ro all l ⟨f,n,S,ds⟩ K:=.run hs h (.nil hk)
theorem aG.k{all:List Oper}{o:Oper}{l:List Oper}{K:ez->Prop}{d:Nat}{c:Call}{g:FuncId}{vs ws:List SV}{r:SV}(hst:dJ all n [o]=true)(hop:o.op=.call c)(hdst:o.dst=some d)(hw:cg all f o.guard=some true)(hdy:gf (.call c)=true)
 (hc:gM P f c=some (g,vs)) (hq:PC P g ws (·=r)) (hwk:bl S vs ws) (hfl:w6 r=true\/bl [] vs ws) (hk:aG P ro all l ⟨(d,r)::f,n,S,ds⟩ K):aG P ro all (o::l) ⟨f,n,S,ds⟩ K:=by
 have hd:=(eJ hst).1;rw[hdst] at hd;exact .call hop hdst (dN hst hw) hdy hd hc hq hwk (hfl.imp (λh r hr=>by rw[hr];exact h) id) (λr hr=>by rw[hr];exact hk)
end
def U3:(∀(a:SV) (l:List SV) (i:Nat),(a::l)[i+1]?=l[i]?)/\(∀(a:SV) (l:List SV),(a::l)[0]?=some a)/\(∀(a:AV) (l:List AV) (i:Nat),(a::l)[i+1]?=l[i]?)/\(∀(a:AV) (l:List AV),(a::l)[0]?=some a)/\(∀(a:SO) (l:List SO) (i:Nat),(a::l)[i+1]?=l[i]?)/\(∀(a:SO) (l:List SO),(a::l)[0]?=some a)/\(∀(a:Oper) (l:List Oper) (i:Nat),(a::l)[i+1]?=l[i]?)/\(∀(a:Oper) (l:List Oper),(a::l)[0]?=some a)/\(∀(a:SV) (l:List SV) (i:Nat),(a::l).drop (i+1)=l.drop i)/\(∀l:List SV,l.drop 0=l)/\(∀i:Nat,([]:List SV).drop i=[])/\(∀(i:Nat) (a:SV) (l:List SV),(a::l).take (i+1)=a::l.take i)/\(∀l:List SV,l.take 0=[])/\(∀i:Nat,([]:List SV).take i=[])/\(∀(p:SV->Bool) (a:SV) (l:List SV),(a::l).all p=(p a&&l.all p))/\(∀p:SV->Bool,([]:List SV).all p=true)/\(∀l:List SV,[]++l=l)/\(∀(a:SV) (l m:List SV),(a::l)++m=a::(l++m))/\(∀(a b:SV) (l:List SV),(a::l).set 0 b=b::l)/\(∀(a b:SV) (l:List SV) (i:Nat),(a::l).set (i+1) b=a::l.set i b)/\(∀l:List SO,[]++l=l)/\(∀(a:SO) (l m:List SO),(a::l)++m=a::(l++m))/\(∀(a b:SO) (l:List SO),(a::l).set 0 b=b::l)/\(∀(a b:SO) (l:List SO) (i:Nat),(a::l).set (i+1) b=a::l.set i b)/\(∀(a:SV) (l:List SV),(a::l).length=l.length+1)/\(([]:List SV).length=0)/\(∀(a:SO) (l:List SO),(a::l).length=l.length+1)/\(([]:List SO).length=0)/\(∀(a:AV) (l:List AV),(a::l).length=l.length+1)/\(([]:List AV).length=0):=by
 (repeat' apply ax)<;>intros<;>first | rfl | (simp;done) | (unfold qJ;rfl)
def U4:(∀(f:AV->SV) (a:AV) (l:List AV),(a::l).map f=f a::l.map f)/\(∀f:AV->SV,([]:List AV).map f=[])/\(∀(f:SV->SV) (a:SV) (l:List SV),(a::l).map f=f a::l.map f)/\(∀f:SV->SV,([]:List SV).map f=[])/\(∀(f:SO->SO) (a:SO) (l:List SO),(a::l).map f=f a::l.map f)/\(∀f:SO->SO,([]:List SO).map f=[])/\(∀(f:(Nat×SV)->(Nat×SV)) (a:(Nat×SV)) (l:List (Nat×SV)),(a::l).map f=f a::l.map f)/\(∀f:(Nat×SV)->(Nat×SV),([]:List (Nat×SV)).map f=[])/\(∀l:List Oper,l.toArray.toList=l)/\(∀l:List Operand,l.toArray.toList=l)/\(∀l:List TypeId,l.toArray.toList=l)/\(∀l:List (Nat×Operand),l.toArray.toList=l)/\(∀l:List ResultVar,l.toArray.toList=l)/\(∀x y:SV,cond true x y=x)/\(∀x y:SV,cond false x y=y)/\(∀x y:Bool,cond true x y=x)/\(∀x y:Bool,cond false x y=y)/\(∀x y:Option (SV×List SO×Option Nat),cond true x y=x)/\(∀x y:Option (SV×List SO×Option Nat),cond false x y=y)/\(∀x y:Option SV,cond true x y=x)/\(∀x y:Option SV,cond false x y=y)/\(∀x y:Option (List SO),cond true x y=x)/\(∀x y:Option (List SO),cond false x y=y)/\(∀n:Nat,0+n=n)/\(∀n:Nat,n+0=n)/\(∀n:Nat,0*n=0)/\(∀b,(b||false)=b)/\(∀b,(false||b)=b)/\(∀b,(b||true)=true)/\(∀b,(true||b)=true):=by
 (repeat' apply ax)<;>intros<;>first | rfl | (simp;done) | (unfold qJ;rfl)
def U5:(∀b,(b&&true)=b)/\(∀b,(true&&b)=b)/\(∀b,(b&&false)=false)/\(∀b,(false&&b)=false)/\((!true)=false)/\((!false)=true)/\(∀p:Prop,(p/\True)=p)/\(∀p:Prop,(True/\p)=p)/\((¬False)=True)/\((¬True)=False)/\(∀a b:Nat,(a≠b)=¬(a=b))/\(∀b:Bool,(b=b)=True)/\(∀n:Nat,(n=n)=True)/\((false=true)=False)/\((true=false)=False)/\(∀{α:Type} (p:Prop) [Decidable p] (x:Option α),qJ p x=if p then x else none):=by
 (repeat' apply ax)<;>intros<;>first | rfl | (simp;done) | (unfold qJ;rfl)
def U6:(∀(k:IntKind) (n:Int),lO lR (.int k n)=some (.int k n))/\(∀b,lO lR (.bool b)=some (.bool b))/\(lO lR (.pointer none)=some (.ptr none))/\(lO lR (.slice none 0 0)=some (.slice none 0 0 (some 0)))/\(lO lR (.map none)=some (.map none))/\(lO lR .nilFunc=some .fw)/\(∀s,lO lR (.string s)=some (.str (s.data.toList.map (·.toNat))))/\(∀l:List UInt8,l.toArray.toList=l)/\(∀(f:UInt8->Nat) (a:UInt8) (l:List UInt8),(a::l).map f=f a::l.map f)/\(∀f:UInt8->Nat,([]:List UInt8).map f=[])/\(∀h:Decidable False,@decide False h=false)/\(∀h:Decidable True,@decide True h=true):=by
 (repeat' apply ax)<;>intros<;>first | rfl | (simp;done)
def U7:(∀l:List (Nat×SV),[]++l=l)/\(∀(a:Nat×SV) (l m:List (Nat×SV)),(a::l)++m=a::(l++m))/\(∀z:List AV,rep z 0=[])/\(∀(z:List AV) (n:Nat),rep z (n+1)=z++rep z n)/\(∀l:List AV,[]++l=l)/\(∀(a:AV) (l m:List AV),(a::l)++m=a::(l++m))/\(∀s,(AV.str s).cells=[.str s])/\(∀k n,(AV.int k n).cells=[.int k n])/\(∀b,(AV.bool b).cells=[.bool b])/\(∀o n e c,(AV.slice o n e c).cells=[.slice o n e c])/\(∀o,(AV.ptr o).cells=[.ptr o])/\(∀o,(AV.map o).cells=[.map o])/\(AV.fw.cells=[.fw])/\(AV.x8.cells=[.x8]):=by
 (repeat' apply ax)<;>intros<;>first | rfl | (simp;done)
def bj:type_of% U3/\type_of% U4/\type_of% U5/\type_of% U6/\type_of% U7:=⟨U3,U4,U5,U6,U7⟩
def dI(k:Nat):((k+1:Nat):Int)=(k:Int)+1:=rfl
def oH{k l B:Nat}(h1:k<l)(h2:l<=B)(hB:B<=9223372036854775807) : -9223372036854775808<=(k:Int)+1/\(k:Int)+1<=9223372036854775807:=⟨by omega,by omega⟩
def sP.of{P:Program}{fn:Func}{Q:SV->Prop}{e:Ex}{f:Fm}{n:Nat}{S:List SO}{rs:List ResultVar}{vs:List SV}{r:SV}(he:kQ e=true)(hr:fn.results.toList=rs)(h:nk P f S rs=some vs)(hw:Wk S (df vs) r)(hq:Q r):sP P fn Q e ⟨f,n,S,[]⟩:=by
 subst hr;exact⟨he,rfl,vs,r,h,hw,hq⟩
abbrev ab(s:List Nat):SV:=.a (.str s)
abbrev aa(n:Int):SV:=.a (.int .i64 n)
abbrev au(b:Bool):SV:=.a (.bool b)
def ah{α:Type}(e:Nat)(l:List α)(enc:α->List SV):SV:=.sl l.length e (l.flatMap enc)
def aH{α:Type}{e:Nat}{enc:α->List SV}(he:∀x,(enc x).length=e):∀{l:List α} {i:Nat} {x:α},l[i]?=some x->((l.flatMap enc).drop (i*e)).take e=enc x
 | [],i,x,h=>by simp at h
 | a::l,0,x,h=>by
  simp only[bo,Option.some.injEq] at h;subst h;rw[bx,bZ,co,List.take_append_of_le_length (by rw[he];exact b0 _),cc (by rw[he];exact b0 _)]
 | a::l,i+1,x,h=>by
  simp only[bk] at h;have ih:=aH he h;rw[co,dd,Nat.add_comm,<-bG,show List.drop e (enc a++l.flatMap enc)=l.flatMap enc from by rw[List.drop_append_of_le_length (by rw[he];exact b0 _),List.drop_of_length_le (by rw[he];exact b0 _),ct]];exact ih
def jv{α:Type}(p:α->Bool)(l:List α):Int:=match l.findIdx? p with
 | some k=>(k:Int)
 | none => -1
def Ed{α:Type}{p:α->Bool}{l:List α}{k:Nat}{x:α}(h1:l[k]?=some x)(h2:p x=true)(h3:∀(i:Nat) y,i<k->l[i]?=some y->p y=false):jv p l=(k:Int):=by
 have:l.findIdx? p=some k:=by
  rw[List.findIdx?_eq_some_iff_getElem];obtain⟨hlt,he⟩:=List.getElem?_eq_some_iff.1 h1;refine⟨hlt,by rw[he];exact h2,λj hj=>?_⟩;rw[h3 j _ hj (List.getElem?_eq_getElem (by omega))];decide
 unfold jv;rw[this]
def vX{α:Type}{p:α->Bool}{l:List α}(h3:∀(i:Nat) y,i<l.length->l[i]?=some y->p y=false):jv p l = -1:=by
 have:l.findIdx? p=none:=by
  rw[List.findIdx?_eq_none_iff];intro x hx;obtain⟨i,hi⟩:=List.mem_iff_getElem?.1 hx;exact h3 i x (bf hi) hi
 unfold jv;rw[this]
def aw{α:Type}(c:α->SV)(x:α):List SV:=[c x]
def PC.of{P:Program}{g:FuncId}{aS:List SV}{xs:List AV}{v:AV}(h:∀h,dy P (.func g) xs h (λa h'=>a=v/\h'=h))(hx:∀ρ avs,kr ρ aS avs->avs=xs):PC P g aS (·=.a v):=
 λρ hh avs h1 h2=>by
  have:=hx ρ avs h2;subst this;exact(h hh).mono λa h' ⟨e1,e2⟩=>⟨.a v,ρ,rfl,by rw[e2];exact .refl _ _,λid ob hi=>.inl hi,by rw[GS];exact e1⟩
def ny{α:Type}(e:Nat)(l:List α)(enc:α->List SV):ah e l enc=.sl l.length e (l.flatMap enc):=rfl
section
variable {P:Program} {K U:Type} [DecidableEq K] {kv:K->AV} {uv:U->SV} {S:List SO} {t kt et:TypeId} {z:AV} {u0:U} {l:List (K×U)} {o:Nat} {x:SV} {k:K}
def bB(kv:K->AV)(uv:U->SV)(l:List (K×U)):SO:=.map (l.map λe=>kv e.1) (l.map λe=>uv e.2) none
abbrev oI(kv:K->AV)(uv:U->SV)(l:List (K×U)):SV:=.im (l.map λe=>kv e.1) (l.map λe=>uv e.2)
def mJ(hk:Keys P kt kv)(k:K):∀(l:List (K×U)) (j:Nat),qP P kt (kv k) (l.map λe=>kv e.1) j=some (pz k l j)
 | [],_=>rfl
 | e::l,j=>by
  rw[a0,qP,hk.eq];by_cases h:k=e.1
  ·simp only[h,decide_true,pz,if_true]
  ·simp only[h,decide_false,pz,if_false];exact mJ hk k l (j+1)
def uq(hm:cW P t=some (kt,et))(hk:Keys P kt kv)(hz:dm P et=some z)(hu:A6 z=uv u0)(hS:sY S x=some (l.map (λe=>kv e.1),l.map λe=>uv e.2)){y:SV}(hf:cE y=some (kv k))(ok:Bool):
 ec P S t x y ok=some (_root_.cond ok (.bC [uv (getM u0 k l),au (dr k l)]) (uv (getM u0 k l))):=by
 unfold ec;rw[hm,ac];simp only;rw[hf,ac,hk.ck,ae,hS,ac];simp only;rw[mJ hk,ac]
 cases hp:pz k l 0 with
 | none=>
  have hn:=iK hp;simp only[hz,aj,qS hn,hn,hu]
 | some i=>
  obtain⟨_,u,h2,h3,_,h5⟩:=gI hp;rw[cp] at h2;simp only[a7,h2,aj,h3,h5]
def CX(hm:cW P t=some (kt,et))(hk:Keys P kt kv)(hz:dm P et=some z)(hu:A6 z=uv u0)(hS:S[o]?=some (bB kv uv l))(hf:cE x=some (kv k))(ok:Bool):
 ec P S t (.map o) x ok=some (_root_.cond ok (.bC [uv (getM u0 k l),au (dr k l)]) (uv (getM u0 k l))):=
 uq hm hk hz hu (by simp only[sY,hS,bB]) hf ok
def PA(hm:cW P t=some (kt,et))(hk:Keys P kt kv)(hz:dm P et=some z)(hu:A6 z=uv u0)(hf:cE x=some (kv k))(ok:Bool):
 ec P S t (oI kv uv l) x ok=some (_root_.cond ok (.bC [uv (getM u0 k l),au (dr k l)]) (uv (getM u0 k l))):=
 uq hm hk hz hu (by simp only[oI,sY]) hf ok
def HD(hm:cW P t=some (kt,et))(hk:Keys P kt kv)(hS:S[o]?=some (bB kv uv l))(hf:cE x=some (kv k))(u:U):
 fD P S t (.map o) x (uv u)=some (S.set o (bB kv uv (cr k u l))):=by
 unfold fD;rw[hm,ac];simp only;rw[hf,ac,hk.ck,ae,hS];simp only[bB];rw[mJ hk,ac]
 cases hp:pz k l 0 with
 | none=>
  have hn:=iK hp;simp only[nj hn,bt,a0,bv,Option.map_none]
 | some i=>
  obtain⟨_,u',h2,_,h4,_⟩:=gI hp;rw[cp] at h2;have h4:=h4 u;rw[cp] at h4;simp only[a7,h2,aj,ac,hk.st,ae,h4,List.map_set]
omit [DecidableEq K] in
def kU{n:Nat}(h:∀u,names n (uv u)=false):bO n (bB kv uv l)=bB kv uv l:=by
 simp only[bO,bB,List.map_map]
 congr 1
 refine List.map_congr_left λe _=>?_;simp only[Function.comp,aM,h,ai]
omit [DecidableEq K] in
def eU(h:∀u,lU (uv u)=true):∀l:List (K×U),cm (l.map λe=>uv e.2)=true
 | []=>rfl
 | e::l=>by rw[a0,cm,h,dc];exact eU h l
omit [DecidableEq K] in
def oC(h:∀u,lU (uv u)=true)(hS:S[o]?=some (bB kv uv l)):Wk S (.map o) (oI kv uv l):=Wk.map hS (bl.refl (eU h l))
end
def Pq{P:Program}{kt:TypeId}(h:P.underlying kt=some .string):Keys P kt AV.str where
 eq a b:=by unfold lM;rw[h];simp only[mS]
 ck a:=by unfold um Gq;rw[h]
 st a:=by unfold stays EK;simp only[mV,Bool.true_and];exact Cw _ _
def Ei{n:Nat}{l:List (List Nat×Bool)}:bO n (bB AV.str au l)=bB AV.str au l:=kU λ_=>jr _
def TM{n:Nat}{l:List (List Nat×Int)}:bO n (bB AV.str aa l)=bB AV.str aa l:=kU λ_=>jr _
end
end Go.Ev
