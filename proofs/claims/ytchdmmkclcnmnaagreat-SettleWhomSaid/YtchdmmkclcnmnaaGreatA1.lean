/- Lemmas of this claim, each with its conditions. -/
import Derived.RangeFuncLeaves
import Derived.LoopNIn
set_option linter.all false
open Nat (beq ble blt div lor mod)
open Int renaming ofNat -> aa
namespace Go
def ww{p : Prop}[Decidable p](h : decide p = true) : p:=of_decide_eq_true h
def wt{p : Prop}[Decidable p](h : decide p = false) : ¬p:=of_decide_eq_false h
def wr{p : Prop}[Decidable p] : (decide p = true) = p:=decide_eq_true_eq
def wp{p : Prop}{_ : Decidable p} : (decide p = false) ↔ ¬p:=decide_eq_false_iff_not
def wd{p : Prop}[Decidable p](h : p) : decide p = true:=decide_eq_true h
def ut{p : Prop}[Decidable p](h : ¬p) : decide p = false:=decide_eq_false h
def un.{u}{c : Prop}{h : Decidable c}(k : ¬c){α : Sort u}{t e : α} : ite c t e = e:=if_neg k
def ul.{u}{c : Prop}{h : Decidable c}(k : c){α : Sort u}{t e : α} : ite c t e = t:=if_pos k
noncomputable def t8.{v}{a : Prop}{b : Sort v}(h1 : a)(h2 : ¬a) : b:=absurd h1 h2
end Go
namespace Go.Ev
noncomputable section
inductive AV where
 | bool (b:Bool)
 | int (k:IntKind) (n:Int)
 | str (s:List Nat)
 | ptr (o:Option (Nat×Nat))
 | slice (o:Option (Nat×Nat)) (len esz:Nat) (cap:Option Nat)
 | map (o:Option Nat)
 | fn (f:Fn) (first cap:List AV)
 | fp
 | iface (t:TypeId) (v:AV)
 | xv
 | any
 | agg (cs:List AV)
 | bE (vs:List AV)
 deriving Inhabited
def AV.cells:AV->List AV
 | .agg cs=>cs
 | v=>[v]
def kn:AV:=.bE []
inductive Tr (α:Type) where
 | nil
 | node (v:Option α) (l r:Tr α)
 deriving Inhabited
def Tr.get{α:Type}(t:Tr α):Nat->Option α:=
 Tr.rec (motive:=λ_=>Nat->Option α) (λ_=>none) (λv _ _ l r k=>Bool.rec (Bool.rec (r (div (Nat.sub k 1) 2)) (l (div (Nat.sub k 1) 2)) (beq (mod k 2) 1)) v (beq k 0)) t
def Tr.lone{α:Type}(x:Option α)(fuel:Nat):Nat->Tr α:=
 Nat.rec (motive:=λ_=>Nat->Tr α) (λ_=>.nil) (λ_ f k=>Bool.rec (Bool.rec (.node none .nil (f (div (Nat.sub k 1) 2))) (.node none (f (div (Nat.sub k 1) 2)) .nil) (beq (mod k 2) 1)) (.node x .nil .nil) (beq k 0)) fuel
def Tr.put{α:Type}(t:Tr α)(k:Nat)(x:Option α):Tr α:=
 Tr.rec (motive:=λ_=>Nat->Tr α) (λk=>Tr.lone x (Nat.succ k) k)
  (λv l r pl pr k=>Bool.rec (Bool.rec (.node v l (pr (div (Nat.sub k 1) 2))) (.node v (pl (div (Nat.sub k 1) 2)) r) (beq (mod k 2) 1)) (.node x l r) (beq k 0)) t k
structure iV where
 fn:Option Fn
 qe:Nat
 args:List AV
 cap:List AV
 deriving Inhabited
inductive AO where
 | cells (cs:List AV) (cg:Nat)
 | ro (cs:List AV)
 | map (es:List (AV×AV×Nat)) (clock:Nat)
 | K8 (s:List Nat) (pos:Nat)
 | jg (m:Option Nat) (since:Nat) (seen:List Nat) (stepped:Nat)
 | loop (st:LoopState) (pending:Option Code) (t:Tr AV) (n:Nat) (params:Array Tmp) (assign body:Code) (ox:Nat)
 | ox (taken:Bool)
 deriving Inhabited
structure H where
 aR:Tr AO
 dE:Tr (Nat×Nat)
 next:Nat
 low:Nat
 deriving Inhabited
def gw(a b:Nat):Nat:=cond (ble a b) a b
structure St where
 t:Tr AV
 n:Nat
 h:H
 ds:List iV
 deriving Inhabited
abbrev R(α:Type):=Option (List α)
def Q6{α β:Type}(f:α->R β):List α->R β
 | []=>some []
 | [x]=>f x
 | x::xs=>match f x,Q6 f xs with
  | some a,some b=>some (a++b)
  | _,_=>none
def Q3{α β:Type}(r:R α)(f:α->R β):R β:=match r with
 | some l=>Q6 f l
 | none=>none
def one{α:Type}(x:α):R α:=some [x]
def lE:Nat->Value->Option AV
 | 0,_=>none
 | n+1,v=>match v with
  | .bool b=>some (.bool b)
  | .int k n=>some (.int k n)
  | .string s=>some (.str (s.data.toList.map (·.toNat)))
  | .pointer none=>some (.ptr none)
  | .slice none 0 0=>some (.slice none 0 0 (some 0))
  | .map none=>some (.map none)
  | .nilFunc=>some .fp
  | .nilIface=>some .xv
  | .agg cs=>(cs.toList.mapM (lE n)).map .agg
  | .tuple cs=>(cs.toList.mapM (lE n)).map .bE
  | .iface t v=>(lE n v).map (.iface t)
  | _=>none
def lH:Nat:=6
def rZ(a b:Int):Bool:=match b-a with
 | .ofNat _=>true
 | .negSucc _=>false
def N9:IntKind->Int
 | .i8 => -128 | .i16 => -32768 | .i32 => -2147483648 | .i64 => -9223372036854775808 | _=>0
def NW:IntKind->Int
 | .i8=>127 | .i16=>32767 | .i32=>2147483647 | .i64=>9223372036854775807
 | .u8=>255 | .u16=>65535 | .u32=>4294967295 | .u64=>18446744073709551615
def dO(k:IntKind)(n:Int):Int:=cond (rZ (N9 k) n&&rZ n (NW k)) n (k.wrap n)
def P0(a b:Int):Bool:=rZ a b&&rZ b a
def uN:List Nat->List Nat->Bool
 | [],[]=>true
 | a::x,b::y=>beq a b&&uN x y
 | _,_=>false
def gJ:List Nat->List Nat->Bool
 | _,[]=>false
 | [],_::_=>true
 | a::x,b::y=>blt a b||(beq a b&&gJ x y)
def yV(a b:IntKind):Bool:=match a,b with
 | .i8,.i8 | .i16,.i16 | .i32,.i32 | .i64,.i64 | .u8,.u8 | .u16,.u16 | .u32,.u32 | .u64,.u64=>true
 | _,_=>false
def cI(P:Program)(t:TypeId):Option Nat:=(P.info? t).map (·.size)
def qy(P:Program)(t:TypeId):Option Bool:=(P.underlying t).map λ
 | .struct _ | .array _ _=>true
 | _=>false
def du(P:Program)(t:TypeId):Option AV:=(P.info? t).bind λi=>i.zero.bind (lE lH)
def fa(P:Program)(t:TypeId)(cs:List AV)(off:Nat):Option AV:=
 match qy P t with
 | some true=>(cI P t).bind λn=>cond (ble (off+n) cs.length) (some (.agg ((cs.drop off).take n))) none
 | some false=>cs[off]?
 | none=>none
def eqFields(P:Program)(eq:TypeId->AV->AV->Option Bool):List Field->List AV->List AV->Option Bool
 | [],_,_=>some true
 | f::fs,xs,ys=>
  cond (f.name== "_") none
   (
    match fa P f.type xs f.offset,fa P f.type ys f.offset with
    | some a,some b=>match eq f.type a b with
     | some true=>eqFields P eq fs xs ys
     | r=>r
    | _,_=>none)
def ti(P:Program)(eq:AV->AV->Option Bool)(e s:Nat)(xs ys:List AV):Nat->Nat->Option Bool
 | 0,_=>some true
 | m+1,i=>match fa P e xs (i*s),fa P e ys (i*s) with
  | some a,some b=>match eq a b with
   | some true=>ti P eq e s xs ys m (i+1)
   | r=>r
  | _,_=>none
def lA(P:Program):Nat->TypeId->AV->AV->Option Bool
 | 0,_,_,_=>none
 | d+1,t,x,y=>
  match P.underlying t,x,y with
  | some .bool,.bool a,.bool b=>some (a==b)
  | some (.int _),.int k a,.int k' b=>cond (yV k k') (some (P0 a b)) none
  | some .string,.str a,.str b=>some (uN a b)
  | some (.pointer _),.ptr none,.ptr b=>some b.isNone
  | some (.pointer _),.ptr (some _),.ptr none=>some false
  | some (.slice _),.slice none _ _ _,.slice b _ _ _=>some b.isNone
  | some (.slice _),.slice (some _) _ _ _,.slice none _ _ _=>some false
  | some (.map _ _),.map none,.map b=>some b.isNone
  | some (.map _ _),.map (some _),.map none=>some false
  | some (.func _ _ _),.fp,.fp=>some true
  | some (.func _ _ _),.fp,.fn ..=>some false
  | some (.func _ _ _),.fn ..,.fp=>some false
  | some (.struct fs),.agg xs,.agg ys=>
   cond (P.stoodInHeld t) none (eqFields P (lA P d) fs.toList xs ys)
  | some (.array n e),.agg xs,.agg ys=>(cI P e).bind λs=>ti P (lA P d e) e s xs ys n 0
  | _,_,_=>none
def gT(eq:AV->AV->Bool):List AV->List AV->Bool
 | [],[]=>true
 | x::xs,y::ys=>eq x y&&gT eq xs ys
 | _,_=>false
def gW:Nat->AV->AV->Bool
 | 0,_,_=>false
 | n+1,a,b=>match a,b with
  | .bool a,.bool b=>a==b
  | .int k a,.int k' b=>yV k k'&&P0 a b
  | .str a,.str b=>uN a b
  | .ptr none,.ptr none=>true
  | .ptr (some (a,b)),.ptr (some (c,d))=>beq a c&&beq b d
  | .slice (some (a,b)) l e c,.slice (some (a',b')) l' e' c'=>beq a a'&&beq b b'&&beq l l'&&beq e e'&&(match c,c' with | none,none=>true | some x,some y=>beq x y | _,_=>false)
  | .slice none l e (some c),.slice none l' e' (some c')=>beq l l'&&beq e e'&&beq c c'
  | .map none,.map none=>true
  | .map (some a),.map (some b)=>beq a b
  | .fp,.fp=>true
  | .xv,.xv=>true
  | .agg xs,.agg ys=>gT (gW n) xs ys
  | .bE xs,.bE ys=>gT (gW n) xs ys
  | .fn (.yield f) [] [],.fn (.yield f') [] []=>beq f f'
  | .fn (.func f) xs ys,.fn (.func f') xs' ys'=>beq f f'&&(gT (gW n) xs xs'&&gT (gW n) ys ys')
  | .iface t x,.iface t' y=>beq t t'&&gW n x y
  | .fn (.method f) xs ys,.fn (.method f') xs' ys'=>decide (f=f')&&(gT (gW n) xs xs'&&gT (gW n) ys ys')
  | _,_=>false
def mJ:AV->Bool
 | .bool _ | .int _ _ | .str _=>true
 | _=>false
def DQ:AV->Bool
 | .agg cs=>cs.all mJ
 | v=>mJ v
def stays(k mB:AV):Bool:=DQ k&&gW 3 k mB
def H.cellsOf(h:H)(id:Nat):Option (List AV×Nat):=match h.aR.get id with
 | some (.cells cs cg)=>some (cs,cg)
 | _=>none
def H.mP(h:H)(cs:List AV):Nat×H:=
 (h.next,{ h with aR:=h.aR.put h.next (some (.cells cs h.next)),dE:=h.dE.put h.next (some (h.next,h.next)),next:=h.next+1 })
def H.newObj(h:H)(o:AO):Nat×H:=(h.next,{ h with aR:=h.aR.put h.next (some o),next:=h.next+1 })
def H.alone(h:H)(id cg:Nat):H:=match h.dE.get cg with
 | some (x,y)=>
  cond (beq x id&&beq y id) h
   { h with aR:=cond (beq y id) (h.aR.put x none) (cond (beq x id) (h.aR.put y none) ((h.aR.put x none).put y none)),dE:=h.dE.put cg (some (id,id)),low:=gw h.low (gw x y) }
 | none=>h
def jZ:AV->Bool
 | .agg _ | .bE _ | .any=>false
 | _=>true
def H.eC(h:H)(id cg:Nat)(mB new:List AV):H:=
 let h1:=h.alone id cg
 { aR:=(h1.aR.put id (some (.cells mB cg))).put h1.next (some (.cells new cg)),dE:=h1.dE.put cg (some (id,h1.next)),next:=h1.next+1,low:=gw h1.low id }
def H.store(h:H)(id off:Nat)(vs:List AV):Option H:=match h.aR.get id with
 | some (.cells cs cg)=>
  cond (ble (off+vs.length) cs.length&&vs.all jZ)
   (
    let h1:=h.alone id cg
    some { h1 with aR:=h1.aR.put id (some (.cells (cs.take off++(vs++cs.drop (off+vs.length))) cg)),low:=gw h1.low id })
   none
 | _=>none
def H.chunk(h:H)(id off n:Nat):Option (List AV):=match h.aR.get id with
 | some (.cells cs _)=>cond (ble (off+n) cs.length) (some ((cs.drop off).take n)) none
 | some (.ro cs)=>cond (ble (off+n) cs.length) (some ((cs.drop off).take n)) none
 | _=>none
def H.load(P:Program)(h:H)(t:TypeId)(id off:Nat):Option AV:=match qy P t with
 | some true=>(cI P t).bind λn=>(h.chunk id off n).map .agg
 | some false=>match h.aR.get id with
  | some (.cells cs _)=>cs[off]?
  | some (.ro cs)=>cs[off]?
  | _=>none
 | none=>none
def H.storeVar(P:Program)(h:H)(t:TypeId)(id off:Nat)(v:AV):Option H:=
 (cI P t).bind λn=>cond (beq v.cells.length n) (h.store id off v.cells) none
def ev(t:Tr AV):Operand->Option AV
 | .tmp i=>some (match t.get i with | some v=>v | none=>kn)
 | .const v=>lE lH v
 | .func f=>some (.fn (.func f) [] [])
 | .global _=>none
def NJ(t:Tr AV)(y:Option Operand):Option (Option AV):=match y with
 | none=>some none
 | some y=>(ev t y).map some
def xm(t:Tr AV)(l:List Operand):Option (List AV):=l.mapM (ev t)
def ko(place:Nat->Option (Nat×Nat))(cells:List AV):List (Nat×AV)->Option (List AV)
 | []=>some cells
 | (i,v)::rest=>match place i with
  | none=>none
  | some (off,size)=>
   cond (beq v.cells.length size&&ble (off+size) cells.length)
    (ko place (cells.take off++(v.cells++cells.drop (off+size))) rest) none
def rep(zero:List AV):Nat->List AV
 | 0=>[]
 | n+1=>zero++rep zero n
def lL(t:Tr AV)(l:List (Nat×Operand)):Option (List (Nat×AV)):=l.mapM λp=>(ev t p.2).map λv=>(p.1,v)
def vK(P:Program)(fs:Array Field)(i:Nat):Option (Nat×Nat):=(fs[i]?).bind λf=>(cI P f.type).map λs=>(f.offset,s)
def uY(P:Program)(t:TypeId)(parts:List (Nat×AV)):Option AV:=
 (du P t).bind λz=>match P.underlying t with
  | some (.struct fs)=>cond (fs.toList.all λf=>(cI P f.type).isSome) ((ko (vK P fs) z.cells parts).map .agg) none
  | some (.array _ e)=>(cI P e).bind λs=>(ko (λi=>some (i*s,s)) z.cells parts).map .agg
  | _=>none
def di:AV->Option Nat
 | .int _ (.ofNat n)=>some n
 | _=>none
def gU(P:Program)(t:TypeId)(len:Nat)(parts:List (Nat×AV)):Option (Nat×List AV):=
 match P.underlying t with
 | some (.slice e)=>
  (cI P e).bind λs=>(du P e).bind λz=>
   cond (ble (len*s) 16777216&&(beq z.cells.length s&&!(beq s 0)))
    ((ko (λi=>some (i*s,s)) (rep z.cells len) parts).map λcs=>(s,cs))
    none
 | _=>none
def Dd(op:BinOp)(a b:Int):Option AV:=match op with
 | .eql=>some (.bool (P0 a b))
 | .neq=>some (.bool (!(P0 a b)))
 | .lss=>some (.bool (!(rZ b a)))
 | .leq=>some (.bool (rZ a b))
 | .gtr=>some (.bool (!(rZ a b)))
 | .geq=>some (.bool (rZ b a))
 | _=>none
def NZ:Int->Bool
 | .ofNat n=>beq n 0
 | _=>false
def cS(P:Program)(op:BinOp)(t:TypeId)(x y:AV):Option AV:=
 match x,y with
 | .int k a,.int k' b=>
  match op with
  | .shl | .shr=>cond (rZ 0 b&&rZ b 64) (match op with
   | .shl=>some (.int k (dO k (a*((2^(min b.toNat k.bits):Nat):Int))))
   | _=>some (.int k (a.fdiv ((2^(min b.toNat k.bits):Nat):Int)))) none
  | _=>
  cond (yV k k')
   (
    match op with
    | .add=>some (.int k (dO k (a+b)))
    | .sub=>some (.int k (dO k (a-b)))
    | .mul=>some (.int k (dO k (a*b)))
    | .quo=>cond (NZ b) none (some (.int k (dO k (a.tdiv b))))
    | .rem=>cond (NZ b) none (some (.int k (a.tmod b)))
    | .and | .or | .xor | .andNot=>none
    | _=>Dd op a b) none
 | .str a,.str b=>match op with
  | .add=>cond (ble (a.length+b.length) 1000000) (some (.str (a++b))) none
  | .eql=>some (.bool (uN a b))
  | .neq=>some (.bool (!(uN a b)))
  | .lss=>some (.bool (gJ a b))
  | .leq=>some (.bool (gJ a b||uN a b))
  | .gtr=>some (.bool (!(gJ a b||uN a b)))
  | .geq=>some (.bool (!(gJ a b)))
  | _=>none
 | .xv,_=>none
 | x,y=>match op with
  | .eql=>cond (P.eqGuardType P.depth t) none ((lA P 8 t x y).map .bool)
  | .neq=>cond (P.eqGuardType P.depth t) none ((lA P 8 t x y).map λb=>.bool (!b))
  | _=>none
def R0(op:UnOp)(x:AV):Option AV:=match op,x with
 | .neg,.int k n=>some (.int k (dO k (0-n)))
 | .not,.bool b=>some (.bool (!b))
 | _,_=>none
def mE(P:Program)(src dst:TypeId)(x:AV):Option AV:=match P.underlying src,P.underlying dst,x with
 | some _,some (.int k),.int _ n=>some (.int k (dO k n))
 | some _,some .string,.str s=>some (.str s)
 | _,_,_=>none
def oH(len:Nat)(cap:Option Nat)(n:Nat):Bool:=ble n len||(match cap with | some c=>ble n c | none=>false)
def nC(len:Nat)(cap:Option Nat)(hi:Option AV):Option Nat:=match hi with
 | some v=>(di v).bind λh=>cond (oH len cap h) (some h) none
 | none=>some len
def cQ(len:Nat)(cap:Option Nat)(lo hi mx:Option AV):Option (Nat×Nat×Option Nat):=
 match mx with
 | some v=>(di v).bind λm=>cond (oH len cap m)
  (
   match hi with
   | some v=>(di v).bind λh=>cond (ble h m)
    (
     match lo with
     | some v=>(di v).bind λl=>cond (ble l h) (some (l,h,some m)) none
     | none=>some (0,h,some m)) none
   | none=>none) none
 | none=>(nC len cap hi).bind λh=>match lo with
  | some v=>(di v).bind λl=>cond (ble l h) (some (l,h,cap)) none
  | none=>some (0,h,cap)
def aU:Option Nat->Nat->Option Nat
 | some c,l=>some (c-l)
 | none,_=>none
def vQ(P:Program)(h:H)(t:TypeId)(x:AV)(lo hi mx:Option AV):Option AV:=
 match P.underlying t,x with
 | some (.array n e),.ptr (some (id,off))=>
  (cI P e).bind λs=>(cQ n (some n) lo hi mx).bind λ(l,hh,m)=>match m with
   | some m=>match h.aR.get id with
    | some (.cells cs _)=>cond (ble (off+n*s) cs.length) (some (.slice (some (id,off+l*s)) (hh-l) s (some (m-l)))) none
    | _=>none
   | none=>none
 | some .string,.str s=>match mx with
  | some _=>none
  | none=>(cQ s.length (some s.length) lo hi none).map λ(l,hh,_)=>.str ((s.drop l).take (hh-l))
 | some (.slice e),.slice o len es cap=>
  (cI P e).bind λs=>(cQ len cap lo hi mx).bind λ(l,hh,m)=>match o with
   | none=>some (.slice none 0 0 (some 0))
   | some (id,off)=>cond (beq s es) (some (.slice (some (id,off+l*s)) (hh-l) s (aU m l))) none
 | _,_=>none
def ic(P:Program)(t:TypeId)(l c:AV):Option (Nat×Nat×Nat×List AV):=
 match P.underlying t with
 | some (.slice e)=>(di l).bind λl=>(di c).bind λc=>(P.info? e).bind λi=>(du P e).bind λz=>
  cond (ble l c&&(ble c 1000000&&(ble i.bytes 10000&&(beq z.cells.length i.size&&!(beq i.size 0)))))
   (some (l,i.size,c,rep z.cells c)) none
 | _=>none
def kL(P:Program)(t:TypeId)(x i:AV):Option AV:=
 (di i).bind λi=>match P.underlying t,x with
  | some (.array n e),.ptr (some (id,off))=>(cI P e).bind λs=>cond (blt i n) (some (.ptr (some (id,off+i*s)))) none
  | some (.slice e),.slice (some (id,off)) len es _=>(cI P e).bind λs=>cond (blt i len&&beq s es) (some (.ptr (some (id,off+i*s)))) none
  | _,_=>none
def vr(P:Program)(t:TypeId)(x i:AV):Option AV:=
 (di i).bind λi=>match P.underlying t,x with
  | some (.array n e),.agg cs=>(cI P e).bind λs=>cond (blt i n) (fa P e cs (i*s)) none
  | some .string,.str s=>(s[i]?).map λb=>.int .u8 (aa b)
  | _,_=>none
def jr(P:Program)(s:TypeId)(x:AV)(f:Nat):Option AV:=
 match P.underlying s,x with
 | some (.struct fs),.ptr (some (id,off))=>(fs[f]?).bind λfd=>(cI P fd.type).bind λn=>cond (beq n 0) none (some (.ptr (some (id,off+fd.offset))))
 | _,_=>none
def vi(P:Program)(s:TypeId)(x:AV)(f:Nat):Option AV:=
 match P.underlying s,x with
 | some (.struct fs),.agg cs=>(fs[f]?).bind λfd=>fa P fd.type cs fd.offset
 | _,_=>none
def oC(P:Program)(ck:TypeId->AV->Bool):List Field->List AV->Bool
 | [],_=>true
 | f::fs,xs=>!(f.name== "_")&&((match fa P f.type xs f.offset with | some a=>ck f.type a | none=>false)&&oC P ck fs xs)
def xR(P:Program)(ck:AV->Bool)(e s:Nat)(xs:List AV):Nat->Nat->Bool
 | 0,_=>true
 | m+1,i=>(match fa P e xs (i*s) with | some a=>ck a | none=>false)&&xR P ck e s xs m (i+1)
def Fv(P:Program):Nat->TypeId->AV->Bool
 | 0,_,_=>false
 | d+1,t,x=>match P.underlying t,x with
  | some .bool,.bool _ | some (.int _),.int _ _ | some .string,.str _=>true
  | some (.struct fs),.agg xs=>oC P (Fv P d) fs.toList xs
  | some (.array n e),.agg xs=>match cI P e with
   | some s=>xR P (Fv P d e) e s xs n 0
   | none=>false
  | _,_=>false
def tG(P:Program)(t:TypeId)(k:AV):Bool:=Fv P 4 t k
def gX(P:Program)(kt:TypeId)(k:AV):List (AV×AV×Nat)->Nat->Option (Option Nat)
 | [],_=>some none
 | e::es,i=>match lA P 4 kt k e.1 with
  | some true=>some (some i)
  | some false=>gX P kt k es (i+1)
  | none=>none
def H.mapOf(h:H)(id:Nat):Option (List (AV×AV×Nat)×Nat):=match h.aR.get id with
 | some (.map es c)=>some (es,c)
 | _=>none
def H.set(h:H)(id:Nat)(o:AO):H:={ h with aR:=h.aR.put id (some o),low:=gw h.low id }
def cW(P:Program)(t:TypeId):Option (TypeId×TypeId):=match P.underlying t with
 | some (.map k e)=>some (k,e)
 | _=>none
def setAt(x:AV×AV×Nat):List (AV×AV×Nat)->Nat->List (AV×AV×Nat)
 | [],_=>[]
 | _::es,0=>x::es
 | e::es,i+1=>e::setAt x es i
def rm(P:Program)(h:H)(t:TypeId)(x k:AV)(ok:Bool):Option AV:=
 (cW P t).bind λ(kt,et)=>cond (tG P kt k)
  (let es:Option (List (AV×AV×Nat)):=match x with
   | .map none=>some []
   | .map (some id)=>(h.mapOf id).map (·.1)
   | _=>none
   es.bind λes=>(gX P kt k es 0).bind λr=>
    let v:Option (AV×Bool):=match r with
     | some i=>(es[i]?).map λe=>(e.2.1,true)
     | none=>(du P et).map λz=>(z,false)
    v.map λ(v,b)=>cond ok (.bE [v,.bool b]) v) none
def kQ(P:Program)(h:H)(t:TypeId)(x k v:AV):Option H:=
 (cW P t).bind λ(kt,_)=>cond (tG P kt k)
  (
   match x with
   | .map (some id)=>(h.mapOf id).bind λ(es,c)=>(gX P kt k es 0).bind λr=>match r with
    | some i=>(es[i]?).bind λe=>cond (stays k e.1) (some (h.set id (.map (setAt (k,v,e.2.2) es i) c))) none
    | none=>some (h.set id (.map (es++[(k,v,c)]) (c+1)))
   | _=>none) none
def mA(P:Program)(h:H)(t:TypeId)(x k:AV):Option (AV×H):=
 (cW P t).bind λ(kt,et)=>cond (tG P kt k)
  (
   match x with
   | .map (some id)=>(h.mapOf id).bind λ(es,c)=>(gX P kt k es 0).bind λr=>match r with
    | some i=>(es[i]?).bind λe=>cond (stays k e.1) (some (.bE [e.2.1,.int .i64 (aa e.2.2)],h.set id (.map (setAt (k,e.2.1,e.2.2) es i) c))) none
    | none=>(du P et).map λz=>(.bE [z,.int .i64 (aa c)],h.set id (.map (es++[(k,z,c)]) (c+1)))
   | _=>none) none
def iP(b:Nat):List (AV×AV×Nat)->Nat->Option Nat
 | [],_=>none
 | e::es,i=>cond (beq e.2.2 b) (some i) (iP b es (i+1))
def lg(h:H)(x stamp v:AV):Option H:=match x with
 | .map (some id)=>(h.mapOf id).bind λ(es,c)=>(di stamp).bind λb=>(iP b es 0).bind λi=>(es[i]?).map λe=>h.set id (.map (setAt (e.1,v,e.2.2) es i) c)
 | _=>none
def vN(P:Program)(h:H)(t:TypeId)(x:AV):Option (AV×H):=match P.underlying t,x with
 | some .string,.str s=>let (id,h):=h.newObj (.K8 s 0);some (.ptr (some (id,0)),h)
 | some (.map _ _),.map none=>let (id,h):=h.newObj (.jg none 0 [] 0);some (.ptr (some (id,0)),h)
 | some (.map _ _),.map (some m)=>(h.mapOf m).map λ(_,c)=>let (id,h):=h.newObj (.jg (some m) c [] c);(.ptr (some (id,0)),h)
 | _,_=>none
def seenIn(b:Nat):List Nat->Bool
 | []=>false
 | x::xs=>beq x b||seenIn b xs
def qg(h:H)(id m since:Nat)(seen:List Nat)(clock:Nat)(mB new:List (AV×AV×Nat)):List (AV×H):=
 (cond mB.isEmpty [(.bE [.bool false],h)] [])++(mB++new).map λe=>(.bE [.bool true,e.1,e.2.1],h.set id (.jg (some m) since (seen++[e.2.2]) clock))
def zz(h:H)(x:AV)(isString:Bool):R (AV×H):=match x with
 | .ptr (some (id,0))=>match h.aR.get id,isString with
  | some (.jg none _ _ _),false=>one (.bE [.bool false],h)
  | some (.jg (some m) since seen last),false=>(h.mapOf m).bind λ(es,clock)=>
   cond (!seen.isEmpty&&(!es.isEmpty&&es.all (λe=>ble last e.2.2))) none
    (some (qg h id m since seen clock ((es.filter λe=>!(seenIn e.2.2 seen)).filter λe=>blt e.2.2 since) ((es.filter λe=>!(seenIn e.2.2 seen)).filter λe=>!(blt e.2.2 since))))
  | _,_=>none
 | _=>none
def ve(h:H)(x:AV):Option AV:=match x with
 | .ptr (some (id,0))=>match h.aR.get id with
  | some (.jg (some m) _ seen stepped)=>match seen.getLast? with
   | some stamp=>(h.mapOf m).bind λ(es,c)=>cond (beq c stepped)
    ((iP stamp es 0).bind λi=>(es[i]?).map λe=>.bE [e.1,e.2.1]) none
   | none=>none
  | _=>none
 | _=>none
def cJ(h:H)(o:Option (Nat×Nat))(n es:Nat):Option (List AV):=match o with
 | none=>cond (beq n 0) (some []) none
 | some (id,off)=>cond (beq n 0) (some []) (h.chunk id off (n*es))
def mq(P:Program)(h:H)(e s:Nat)(xt:TypeId)(x:AV):Option (Nat×List AV):=
 match P.underlying xt with
 | some (.int _)=>(di x).bind λn=>(du P e).bind λz=>cond (ble n 1000000&&beq z.cells.length s) (some (n,rep z.cells n)) none
 | some _=>match x with
  | .slice o n es _=>cond (beq es s||beq n 0) ((cJ h o n s).map λcs=>(n,cs)) none
  | _=>none
 | none=>none
def sZ(P:Program)(h:H)(st xt:TypeId)(x y:AV):Option (AV×H):=
 match P.underlying st,x with
 | some (.slice e),.slice o len es cap=>(P.info? e).bind λi=>(du P e).bind λz=>
  cond (beq z.cells.length i.size&&(!(beq i.size 0)&&(ble len 1000000&&ble i.bytes 10000)))
   (
    (mq P h e i.size xt y).bind λ(n,cs)=>
    cond (beq n 0) (some (x,h))
     (cond (ble n 1000000)
      (
       match o with
       | none=>
        let (id,h):=h.mP cs
        some (.slice (some (id,0)) n i.size none,h)
       | some (id,off)=>cond (beq es i.size)
        (
         match cap with
         | some c=>cond (ble (len+n) c)
          ((h.store id (off+len*es) cs).map λh=>(.slice o (len+n) es cap,h))
          ((
           cJ h o len es).map λmB=>
           let (id,h):=h.mP (mB++cs)
           (.slice (some (id,0)) (len+n) es none,h))
         | none=>match h.aR.get id with
          | some (.cells bs cg)=>cond (ble (off+len*es) bs.length)
           (cond (cs.all jZ) (some (.slice (some ((h.alone id cg).next,0)) (len+n) es none,
            h.eC id cg (bs.take (off+len*es)) ((bs.drop off).take (len*es)++cs))) none) none
          | _=>none) none) none)) none
 | _,_=>none
def Fw(P:Program)(h:H)(dt:TypeId)(x y:AV):Option (AV×H):=match P.underlying dt,x,y with
 | some (.slice e),.slice o dl des _,.slice o' sl ses _=>(cI P e).bind λs=>
  let n:=Nat.min sl dl
  cond (beq n 0) (some (.int .i64 0,h))
   (cond (beq des s&&beq ses s)
    ((
     cJ h o' n s).bind λcs=>match o with
     | some (id,off)=>(h.store id off cs).map λh=>(.int .i64 (aa n),h)
     | none=>none) none)
 | _,_,_=>none
def F3(P:Program)(h:H)(t:TypeId)(x:AV):Option AV:=
 (
  (match P.underlying t,x with
  | some .string,.str s=>some s.length
  | some (.array n _),_=>some n
  | some (.slice _),.slice _ n _ _=>some n
  | some (.map _ _),.map none=>some 0
  | some (.map _ _),.map (some id)=>(h.mapOf id).map λm=>m.1.length
  | _,_=>none):Option Nat).map λn=>.int .i64 (aa n)
def sH(isMax:Bool)(x y:AV):Option AV:=match x,y with
 | .int k a,.int _ b=>some (.int k (cond isMax (cond (rZ b a) a b) (cond (rZ a b) a b)))
 | .str a,.str b=>some (.str (cond isMax (cond (gJ a b) b a) (cond (gJ a b||uN a b) a b)))
 | _,_=>none
def nB(isMax:Bool):AV->List AV->Option AV
 | x,[]=>some x
 | x,y::l=>(sH isMax x y).bind λz=>nB isMax z l
def tf(P:Program)(h:H)(t:TypeId)(x k:AV):Option (AV×H):=
 (cW P t).bind λ(kt,_)=>cond (tG P kt k)
  (
   match x with
   | .map none=>some (.bE [],h)
   | .map (some id)=>(h.mapOf id).bind λ(es,c)=>(gX P kt k es 0).map λr=>match r with
    | some i=>(.bE [],h.set id (.map (es.eraseIdx i) c))
    | none=>(.bE [],h)
   | _=>none) none
def yq(P:Program)(h:H)(t:TypeId)(x:AV):Option (AV×H):=match P.underlying t,x with
 | some (.slice _),.slice none _ _ _=>some (.bE [],h)
 | some (.slice e),.slice (some (id,off)) n es _=>(cI P e).bind λs=>(du P e).bind λz=>
  cond (beq n 0) (some (.bE [],h)) (cond (beq s es&&beq z.cells.length s) ((h.store id off (rep z.cells n)).map λh=>(.bE [],h)) none)
 | _,_=>none
def mD(P:Program)(h:H)(b:Builtin)(ats:List TypeId)(xs:List AV):Option (AV×H):=match b,ats,xs with
 | .append,st::xt::_,[x,y]=>sZ P h st xt x y
 | .len,t::_,x::_=>(F3 P h t x).map λv=>(v,h)
 | .cap,t::_,[.slice _ _ _ (some c)]=>match P.underlying t with
  | some (.slice _)=>some (.int .i64 (aa c),h)
  | _=>none
 | .copy,dt::_,x::y::_=>Fw P h dt x y
 | .min,_,x::l=>(nB false x l).map λv=>(v,h)
 | .max,_,x::l=>(nB true x l).map λv=>(v,h)
 | .delete,t::_,x::k::_=>tf P h t x k
 | .clear,t::_,x::_=>yq P h t x
 | _,_,_=>none
def jn(P:Program)(t:TypeId)(name:String):Option FuncId:=(P.info? t).bind λi=>
 (i.methods.find? (·.name==name)).bind λm=>match m.path.isEmpty,m.func with
  | true,some (f,false)=>match P.underlying t with
   | some (.struct _) | some (.int _) | some .string | some (.slice _)=>some f
   | _=>none
  | _,_=>none
def oR(P:Program)(x:AV):Option AV:=match x with
 | .ptr (some _)=>some x
 | .fn (.func _) _ _=>some x
 | .fn (.method name) [.iface t _] _=>(jn P t name).map λ_=>x
 | .slice ..=>some x
 | _=>none
def o6(P:Program)(t:Tr AV)(o:Op)(id:Nat):Option (AV×AO):=match o with
 | .alloc e=>(du P e).map λz=>(.ptr (some (id,0)),.cells z.cells id)
 | .box _ x=>(ev t x).map λx=>(.ptr (some (id,0)),.cells x.cells id)
 | .buildSlice tt n ps=>(lL t ps.toList).bind λps=>(gU P tt n ps).map λ(s,cs)=>(.slice (some (id,0)) n s (some n),.cells cs id)
 | .makeMap tt r=>match r with
  | none=>some (.map (some id),.map [] 0)
  | some x=>match ev t x,cW P tt with
   | some (.int _ _),some _=>some (.map (some id),.map [] 0)
   | _,_=>none
 | .makeSlice tt l c=>(ev t l).bind λl=>(ev t c).bind λc=>(ic P tt l c).map λ(l,s,c,cs)=>(.slice (some (id,0)) l s (some c),.cells cs id)
 | _=>none
def P7:Op->Bool
 | .alloc _ | .box _ _ | .buildSlice _ _ _ | .makeMap _ _ | .makeSlice _ _ _=>true
 | _=>false
def H.lay(h:H)(id:Nat)(o:AO):H:=match o with
 | .cells _ _=>{ h with aR:=h.aR.put id (some o),dE:=h.dE.put id (some (id,id)) }
 | _=>{ h with aR:=h.aR.put id (some o) }
def eg(P:Program)(t:Tr AV)(h:H)(o:Op):R (Option AV×H):=
 let v (r:Option AV):R (Option AV×H):=r.map λx=>[(some x,h)]
 let vh (r:Option (AV×H)):R (Option AV×H):=r.map λx=>[(some x.1,x.2)]
 let u (r:Option H):R (Option AV×H):=r.map λx=>[(none,x)]
 match o with
 | .move x | .assign x=>v (ev t x)
 | .pick c a b=>(ev t a).bind λa=>(ev t b).bind λb=>match ev t c with
  | some (.bool true)=>v (some a)
  | some (.bool false)=>v (some b)
  | _=>none
 | .alloc _ | .box _ _ | .buildSlice _ _ _ | .makeMap _ _ | .makeSlice _ _ _=>
  vh ((o6 P t o h.next).map λ(v,ob)=>(v,{ h.lay h.next ob with next:=h.next+1 }))
 | .build tt ps=>v ((lL t ps.toList).bind λps=>uY P tt ps)
 | .load tt a=>match ev t a with
  | some (.ptr (some (id,off)))=>v (h.load P tt id off)
  | _=>none
 | .store tt a x=>match ev t a,ev t x with
  | some (.ptr (some (id,off))),some x=>u (h.storeVar P tt id off x)
  | _,_=>none
 | .nilCheck x=>v ((ev t x).bind (oR P))
 | .binOp op xt x y _=>v ((ev t x).bind λx=>(ev t y).bind λy=>cS P op xt x y)
 | .unOp op _ x=>v ((ev t x).bind (R0 op))
 | .convert s d x=>v ((ev t x).bind (mE P s d))
 | .makeInterface xt x=>match P.underlying xt with
  | some (.interface _)=>none
  | some _=>v ((ev t x).map λx=>.iface xt x)
  | none=>none
 | .makeFunc f first cap=>match f with
  | .yield _=>none
  | f=>v ((xm t first.toList).bind λa=>(xm t cap.toList).map λb=>.fn f a b)
 | .slice tt x lo hi mx=>v ((ev t x).bind λx=>(NJ t lo).bind λlo=>(NJ t hi).bind λhi=>(NJ t mx).bind λmx=>vQ P h tt x lo hi mx)
 | .fieldAddr s x f=>v ((ev t x).bind λx=>jr P s x f)
 | .field s x f=>v ((ev t x).bind λx=>vi P s x f)
 | .indexAddr tt x i=>v ((ev t x).bind λx=>(ev t i).bind λi=>kL P tt x i)
 | .index tt x i=>v ((ev t x).bind λx=>(ev t i).bind λi=>vr P tt x i)
 | .lookup tt x k ok=>v ((ev t x).bind λx=>(ev t k).bind λk=>rm P h tt x k ok)
 | .mapUpdate tt m k x | .insert tt m k x=>u ((ev t m).bind λm=>(ev t k).bind λk=>(ev t x).bind λx=>kQ P h tt m k x)
 | .mapEntry tt m k=>vh ((ev t m).bind λm=>(ev t k).bind λk=>mA P h tt m k)
 | .entryStore _ m s x=>u ((ev t m).bind λm=>(ev t s).bind λs=>(ev t x).bind λx=>lg h m s x)
 | .range tt x=>vh ((ev t x).bind λx=>vN P h tt x)
 | .next it isS=>match ev t it with
  | some it=>(zz h it isS).map λl=>l.map λx=>(some x.1,x.2)
  | none=>none
 | .entry it=>v ((ev t it).bind λit=>ve h it)
 | .extract x i=>match ev t x with
  | some (.bE vs)=>v vs[i]?
  | _=>none
 | .typeAssert x _ asserted ok=>match P.underlying asserted with
  | some (.interface _)=>none
  | some _=>match ev t x with
   | some (.iface d y)=>cond (beq d asserted) (v (some (cond ok (.bE [y,.bool true]) y))) none
   | _=>none
  | none=>none
 | .call { callee:=.builtin b,args,argTypes }=>vh ((xm t args.toList).bind λxs=>mD P h b argTypes.toList xs)
 | _=>none
inductive DV where
 | fl (a:AV)
 | sl (nl:Bool) (n e:Nat) (cs:List DV)
 | ag (cs:List DV)
 deriving Inhabited
def gd:AV->AV->Bool
 | .bool a,.bool b=>Bool.rec (Bool.rec true false b) b a
 | .int k a,.int k' b=>yV k k'&&P0 a b
 | .str a,.str b=>uN a b
 | _,_=>false
mutual
def DV.eq:DV->DV->Bool
 | .fl a,.fl b=>gd a b
 | .sl x n e cs,.sl y m g ds=>(Bool.rec (Bool.rec true false y) y x)&&(beq n m&&(beq e g&&DV.uN cs ds))
 | .ag cs,.ag ds=>DV.uN cs ds
 | _,_=>false
def DV.uN:List DV->List DV->Bool
 | [],[]=>true
 | a::aS,b::bs=>DV.eq a b&&DV.uN aS bs
 | _,_=>false
end
def rowAt(h:H)(id:Nat):Option (List AV):=match h.aR.get id with
 | some (.cells cs _)=>some cs
 | some (.ro cs)=>some cs
 | _=>none
def OP(h:H):Nat->AV->Option DV
 | 0,_=>none
 | k+1,a=>match a with
  | .slice none 0 e (some 0)=>some (.sl true 0 e [])
  | .slice (some (id,off)) n e _=>cond (beq n 0||ble h.next id) none
   ((rowAt h id).bind λrow=>cond (ble (off+n*e) row.length) ((((row.drop off).take (n*e)).mapM (OP h k)).map λcs=>.sl false n e cs) none)
  | .agg aS=>(aS.mapM (OP h k)).map .ag
  | a=>cond (mJ a) (some (.fl a)) none
mutual
def canon:DV->Nat->AV×List (Option (List AV))
 | .fl a,_=>(a,[])
 | .sl nl n e cs,k=>match nl with
  | true=>(.slice none 0 e (some 0),[])
  | false=>(.slice (some (k,0)) n e none,(match n with | 0=>none | _=>some (eR cs (k+1)).1)::(eR cs (k+1)).2)
 | .ag cs,k=>(.agg (eR cs k).1,(eR cs k).2)
def eR:List DV->Nat->List AV×List (Option (List AV))
 | [],_=>([],[])
 | d::ds,k=>((canon d k).1::(eR ds (k+(canon d k).2.length)).1,(canon d k).2++(eR ds (k+(canon d k).2.length)).2)
end
def Q5:List (List DV×AV)->List DV->Option AV
 | [],_=>none
 | (ds,v)::l,es=>cond (DV.uN ds es) (some v) (Q5 l es)
inductive Ex where
 | normal | ret
 | exit (id:Nat)
 | goto (l:Nat)
 deriving Inhabited
abbrev CV:=Fn->List AV->H->R (AV×H)
def St.put(st:St)(dst:Option Tmp)(v:AV):Option St:=match dst with
 | none=>some st
 | some d=>match st with
  | ⟨t,n,h,ds⟩=>cond (blt d n) (some ⟨t.put d (some v),n,h,ds⟩) none
def St.S5(st:St)(h:H):St:=match st with
 | ⟨t,n,_,ds⟩=>⟨t,n,h,ds⟩
def uK(ops:List Oper)(t:Tr AV)(n:Nat)(o:Oper):Option Bool:=match o.guard with
 | none=>some true
 | some (j,want)=>match (ops[j]?).bind (·.dst) with
  | some d=>cond (blt d n) (match t.get d with
   | some (.bool b)=>some (b==want)
   | some (.bE []) | none=>some false
   | _=>none) none
  | none=>none
def pg(P:Program)(t:Tr AV)(c:Call):Option (Fn×List AV×List AV):=match c.callee with
 | .value f=>match ev t f with
  | some (.fn fn first cap)=>(xm t c.args.toList).map λxs=>(fn,first++xs,cap)
  | _=>none
 | .invoke r name=>match ev t r with
  | some (.iface tt v)=>(jn P tt name).bind λf=>(xm t c.args.toList).map λxs=>(.func f,v::xs,[])
  | _=>none
 | .builtin _=>none
def lj:Op->Bool
 | .call { callee:=.builtin _,.. }=>false
 | .call _=>true
 | _=>false
def TY(P:Program)(cv:CV)(ro:Option Nat)(o:Oper)(st:St):R St:=
 match o.op with
 | .defer c=>match ro with
  | some _=>none
  | none=>match c.callee with
   | .value g=>match ev st.t g with
    | some (.fn (.func f) first cap)=>match xm st.t c.args.toList with
     | some xs=>(({ st with ds:={ fn:=some (.func f),qe:=0,args:=first++xs,cap }::st.ds }:St).put o.dst kn).map λs=>[s]
     | none=>none
    | _=>none
   | _=>none
 | op=>cond (lj op)
  (
   match op with
   | .call c=>match pg P st.t c with
    | some (fn,xs,cap)=>Q3 (cv fn (xs++cap) st.h) λ(v,h)=>((st.S5 h).put o.dst v).map λs=>[s]
    | none=>none
   | _=>none)
  (Q3 (eg P st.t st.h op) λ(v,h)=>((st.S5 h).put o.dst (match v with | some v=>v | none=>kn)).map λs=>[s])
def rY:Op->Bool
 | .store .. | .entryStore .. | .mapUpdate .. | .insert .. | .mapEntry .. | .next .. | .defer _ | .range ..=>true
 | .call { callee:=.builtin b,.. }=>match b with | .len | .cap | .min | .max=>false | _=>true
 | .call _=>true
 | _=>false
def bit(i:Nat):Nat:=2^i
def en(m i:Nat):Bool:=Nat.testBit m i
def qC:List Oper->List Nat->List Nat
 | [],acc=>acc
 | o::rest,acc=>qC rest (acc++[o.after.toList.foldl (λm e=>cond (Region.binds .any e) (lor m (lor (bit e.on) (acc.getD e.on 0))) m) 0])
def tmpsOf(o:Oper):List Tmp:=o.op.operands.toList.filterMap λ| .tmp t=>some t | _=>none
def oh(ops:List Oper)(o:Oper):List Tmp:=tmpsOf o++(match o.guard with
 | some (j,_)=>match (ops[j]?).bind (·.dst) with
  | some d=>[d]
  | none=>[]
 | none=>[])
def Ra(t:Tr AV):List Tmp->Tr AV
 | []=>.nil
 | k::l=>(Ra t l).put k (t.get k)
def e7{α:Type}:Nat->List α->List (Nat×α)
 | _,[]=>[]
 | i,x::xs=>(i,x)::e7 (i+1) xs
def kF(base:Nat)(m:Nat):List (Nat×AO)->H->H
 | [],h=>h
 | (i,o)::xs,h=>kF base m xs (cond (en m i) (h.lay (base+i) o) h)
structure Dr where
 t:Tr AV
 c:H
 xs:List (Nat×AO)
 all:List (Nat×AO)
 m:Nat
 cs:List (Nat×Nat×H)
 reads:List (Nat×Tr AV×Op×AV)
 deriving Inhabited
def Dr.QI(d:Dr)(n:Nat)(dst:Option Tmp)(v:AV):Option Dr:=match dst with
 | none=>some d
 | some k=>cond (blt k n) (some { d with t:=d.t.put k (some v) }) none
def Sz(P:Program)(cv:CV)(ro:Option Nat)(base:Nat)(all:List Oper)(ms:List Nat)(n:Nat)(i:Nat)(o:Oper)(d:Dr):Option Dr:=
 let r:=Ra d.t (oh all o)
 match uK all r n o with
 | none=>none
 | some false=>d.QI n o.dst kn
 | some true=>
  cond (rY o.op)
   (
    match TY P cv ro o { t:=r,n,h:=kF base (ms.getD i 0) d.xs d.c,ds:=[] } with
    | some [st]=>(d.QI n o.dst (match o.dst with | some k=>(st.t.get k).getD kn | none=>kn)).map λd=>
     { d with c:=st.h,xs:=d.xs.filter (λx=>!(en (ms.getD i 0) x.1)),m:=lor d.m (ms.getD i 0),cs:=d.cs++[(i,lor d.m (ms.getD i 0),st.h)] }
    | _=>none)
   (cond (P7 o.op)
    (
     match o6 P r o.op (base+i) with
     | some (v,ob)=>(d.QI n o.dst v).map λd=>{ d with xs:=d.xs++[(i,ob)],all:=d.all++[(i,ob)] }
     | none=>none)
    (
     match eg P r (kF base (ms.getD i 0) d.xs d.c) o.op with
     | some [(some v,_)]=>(d.QI n o.dst v).map λd=>{ d with reads:=d.reads++[(i,r,o.op,v)] }
     | _=>none))
def H.pC(h:H)(id:Nat):Option (LoopState×Option Code×Tr AV×Nat×Array Tmp×Code×Code×Nat):=match h.aR.get id with
 | some (.loop st p t n ps a b d)=>some (st,p,t,n,ps,a,b,d)
 | _=>none
def Df(ro:Option Nat)(ps:Array Tmp)(assign body:Code)(st:St):Option (Nat×St):=match ro with
 | some l=>(st.h.pC l).map λr=>
  let (id,h):=st.h.newObj (.loop .ready none st.t st.n ps assign body r.2.2.2.2.2.2.2)
  (id,{ st with h:=h })
 | none=>
  let (r,h):=st.h.newObj (.ox false)
  let (id,h):=h.newObj (.loop .ready none st.t st.n ps assign body r)
  some (id,{ st with h:=h,ds:={ fn:=none,qe:=r,args:=[],cap:=[] }::st.ds })
def yg:Nat->List AV->Tr AV->Tr AV
 | _,[],t=>t
 | i,x::xs,t=>yg (i+1) xs (t.put i (some x))
def tY(P:Program)(t:Tr AV)(h:H)(rs:List ResultVar):Option AV:=
 (rs.mapM λ
  | ResultVar.tmp i=>ev t (.tmp i)
  | ResultVar.cell a tt=>match ev t (.tmp a) with
   | some (.ptr (some (id,off)))=>h.load P tt id off
   | _=>none).map λvs=>match vs with
  | [v]=>v
  | vs=>.bE vs
def kJ:Ex->Bool
 | .normal | .ret=>true
 | _=>false
inductive XK where
 | indexByte | cmp | clone | name
 | S6 (ts:List TypeId)
 | const (v:AV)
 | deep (tbl:List (List DV×AV))
 deriving Inhabited
def gf(c:Nat):List Nat->Nat->Int
 | [],_ => -1
 | b::l,i=>cond (beq b c) (aa i) (gf c l (i+1))
def df(b:Nat):Bool:=(ble 97 b&&ble b 122)||(ble 65 b&&ble b 90)
def gI(b:Nat):Bool:=df b||((ble 48 b&&ble b 57)||beq b 95)
def cD:List Nat->Bool
 | []=>false
 | b::l=>df b&&(l.all gI&&ble l.length 23)
def xA(k:XK)(args:List AV)(h:H):Option (AV×H):=match k,args with
 | .indexByte,[.str s,.int .u8 (.ofNat c)]=>cond (blt c 256) (some (.int .i64 (gf c s 0),h)) none
 | .cmp,[.str a,.str b]=>some (.int .i64 (cond (gJ a b) (-1) (cond (uN a b) 0 1)),h)
 | .clone,[.iface t (.map (some id))]=>(h.mapOf id).map λ(es,c)=>(.iface t (.map (some h.next)),{ h.lay h.next (.map es c) with next:=h.next+1 })
 | .name,[.str s]=>cond (ble s.length 1000000) (some (.bool (cD s),h)) none
 | .const v,[]=>some (v,h)
 | .deep tbl,args=>(args.mapM (OP h 8)).bind λds=>(Q5 tbl ds).map λv=>(v,h)
 | .S6 ts,[.iface t (.slice _ n _ _),.fn _ _ _]=>cond (ble n 1&&ts.any (beq t)) (some (.bE [],h)) none
 | _,_=>none
def jA:List (Nat×AV)->Nat->Tr AV->Option (Tr AV)
 | [],_,t=>some t
 | (k,v)::l,n,t=>cond (blt k n) (jA l n (t.put k (some v))) none
end
end Go.Ev
