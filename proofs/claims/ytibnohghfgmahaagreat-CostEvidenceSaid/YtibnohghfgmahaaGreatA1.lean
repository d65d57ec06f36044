/- Lemmas of this claim, each with its conditions. -/
import Derived.RangeFuncLeaves
import Derived.LoopNIn
import Derived.Laws.Cells
import Derived.Laws.StructEq
set_option linter.all false
open Nat (beq ble blt div lor mod)
open List (all_eq_true range')
open Option renaming bind_some -> ac, map_some -> af, getD_some -> d6
open Bool renaming and_eq_true -> ad, false_eq_true -> ay, not_true -> b9, or_eq_true -> cl, not_false -> d5
open Nat renaming le_refl -> al, lt_of_lt_of_le -> a0, le_trans -> bc, lt_or_ge -> be, add_assoc -> bw, mul_le_mul_right -> b6, mul_le_mul -> ca, add_mul -> ce, le_of_ble_eq_true -> cf, add_sub_cancel -> co, sub_zero -> d8, succ_mul -> d9
open List renaming getElem?_eq_none -> ap, getElem?_eq_getElem -> ax, getElem?_take -> a9, getElem?_append -> ba, getElem?_cons_succ -> bb, getElem?_drop -> bv, eq_nil_of_length_eq_zero -> b0, getElem?_map -> b5, getElem?_range -> b8, mapM_cons -> cc, length_cons -> ci, forIn_cons -> cn, map_cons -> dc, range'_succ -> d0, all_cons -> d7, length -> ei
open Array renaming getElem?_eq_getElem -> bh, getElem?_setIfInBounds -> bi, getElem?_modify -> b7, getElem?_push -> cb, range -> ct, toList_push -> dd
open Int renaming toNat_natCast -> bt, ofNat -> cd, natCast_mul -> ch, natCast_pow -> dv
namespace Go
def ww{p : Prop}[Decidable p](h : decide p = true) : p:=of_decide_eq_true h
def wt{p : Prop}[Decidable p](h : decide p = false) : ¬p:=of_decide_eq_false h
def wp{p : Prop}[Decidable p] : (decide p = true) = p:=decide_eq_true_eq
def wd{p : Prop}{_ : Decidable p} : (decide p = false) ↔ ¬p:=decide_eq_false_iff_not
def ut{p : Prop}[Decidable p](h : p) : decide p = true:=decide_eq_true h
def un{p : Prop}[Decidable p](h : ¬p) : decide p = false:=decide_eq_false h
def ul.{u}{c : Prop}{h : Decidable c}(k : ¬c){α : Sort u}{t e : α} : ite c t e = e:=if_neg k
def t8.{u}{c : Prop}{h : Decidable c}(k : c){α : Sort u}{t e : α} : ite c t e = t:=if_pos k
noncomputable def t7.{v}{a : Prop}{b : Sort v}(h1 : a)(h2 : ¬a) : b:=absurd h1 h2
end Go
namespace Go.Ev
abbrev DR:Nat:=3
abbrev jD:Nat:=14
abbrev vn:Nat:=2
abbrev ES:Nat:=5
abbrev B1:Nat:=15
abbrev C7:Nat:=121
abbrev C8:Nat:=129
noncomputable section
inductive AV where
 | bool (b:Bool)
 | int (k:IntKind) (n:Int)
 | str (s:List Nat)
 | ptr (o:Option (Nat×Nat))
 | slice (o:Option (Nat×Nat)) (len esz:Nat) (cap:Option Nat)
 | map (o:Option Nat)
 | fn (f:Fn) (first cap:List AV)
 | dD
 | iface (t:TypeId) (v:AV)
 | nT
 | any
 | agg (cs:List AV)
 | aO (vs:List AV)
 deriving Inhabited
def AV.cells:AV->List AV
 | .agg cs=>cs
 | v=>[v]
def e7:AV:=.aO []
inductive Tr (α:Type) where
 | nil
 | node (v:Option α) (l r:Tr α)
 deriving Inhabited
def Tr.get{α:Type}(t:Tr α):Nat->Option α:=
 Tr.rec (motive:=λ_=>Nat->Option α) (λ_=>none) (λv _ _ l r k=>Bool.rec (Bool.rec (r (div (Nat.sub k 1) 2)) (l (div (Nat.sub k 1) 2)) (beq (mod k 2) 1)) v (beq k 0)) t
def Tr.lone{α:Type}(x:Option α)(fuel:Nat):Nat->Tr α:=
 Nat.rec (motive:=λ_=>Nat->Tr α) (λ_=>.nil) (λ_ f k=>Bool.rec (Bool.rec (.node none .nil (f (div (Nat.sub k 1) 2))) (.node none (f (div (Nat.sub k 1) 2)) .nil) (beq (mod k 2) 1)) (.node x .nil .nil) (beq k 0)) fuel
def Tr.put{α:Type}(t:Tr α)(k:Nat)(x:Option α):Tr α:=
 Tr.rec (motive:=λ_=>Nat->Tr α) (λk=>Tr.lone x (Nat.succ k) k)
  (λv l r pl pr k=>Bool.rec (Bool.rec (.node v l (pr (div (Nat.sub k 1) 2))) (.node v (pl (div (Nat.sub k 1) 2)) r) (beq (mod k 2) 1)) (.node x l r) (beq k 0)) t k
structure eE where
 fn:Option Fn
 tT:Nat
 args:List AV
 cap:List AV
 deriving Inhabited
inductive AO where
 | cells (cs:List AV) (aX:Nat)
 | ro (cs:List AV)
 | map (es:List (AV×AV×Nat)) (clock:Nat)
 | Ar (s:List Nat) (pos:Nat)
 | eg (m:Option Nat) (since:Nat) (seen:List Nat) (stepped:Nat)
 | loop (st:LoopState) (pending:Option Code) (t:Tr AV) (n:Nat) (params:Array Tmp) (assign body:Code) (ik:Nat)
 | ik (taken:Bool)
 deriving Inhabited
structure H where
 aD:Tr AO
 bW:Tr (Nat×Nat)
 next:Nat
 low:Nat
 deriving Inhabited
def dF(a b:Nat):Nat:=cond (ble a b) a b
structure St where
 t:Tr AV
 n:Nat
 h:H
 ds:List eE
 deriving Inhabited
abbrev R(α:Type):=Option (List α)
def DQ{α β:Type}(f:α->R β):List α->R β
 | []=>some []
 | [x]=>f x
 | x::xs=>match f x,DQ f xs with
  | some a,some b=>some (a++b)
  | _,_=>none
def DG{α β:Type}(r:R α)(f:α->R β):R β:=match r with
 | some l=>DQ f l
 | none=>none
def one{α:Type}(x:α):R α:=some [x]
def fW:Nat->Value->Option AV
 | 0,_=>none
 | n+1,v=>match v with
  | .bool b=>some (.bool b)
  | .int k n=>some (.int k n)
  | .string s=>some (.str (s.data.toList.map (·.toNat)))
  | .pointer none=>some (.ptr none)
  | .slice none 0 0=>some (.slice none 0 0 (some 0))
  | .map none=>some (.map none)
  | .nilFunc=>some .dD
  | .nilIface=>some .nT
  | .agg cs=>(cs.toList.mapM (fW n)).map .agg
  | .tuple cs=>(cs.toList.mapM (fW n)).map .aO
  | .iface t v=>(fW n v).map (.iface t)
  | _=>none
def depthV:Nat:=6
def iJ(a b:Int):Bool:=match b-a with
 | .ofNat _=>true
 | .negSucc _=>false
def xe:IntKind->Int
 | .i8 => -128 | .i16 => -32768 | .i32 => -2147483648 | .i64 => -9223372036854775808 | _=>0
def xd:IntKind->Int
 | .i8=>127 | .i16=>32767 | .i32=>2147483647 | .i64=>9223372036854775807
 | .u8=>255 | .u16=>65535 | .u32=>4294967295 | .u64=>18446744073709551615
def bR(k:IntKind)(n:Int):Int:=cond (iJ (xe k) n&&iJ n (xd k)) n (k.wrap n)
def CX(a b:Int):Bool:=iJ a b&&iJ b a
def my:List Nat->List Nat->Bool
 | [],[]=>true
 | a::x,b::y=>beq a b&&my x y
 | _,_=>false
def db:List Nat->List Nat->Bool
 | _,[]=>false
 | [],_::_=>true
 | a::x,b::y=>blt a b||(beq a b&&db x y)
def pg(a b:IntKind):Bool:=match a,b with
 | .i8,.i8 | .i16,.i16 | .i32,.i32 | .i64,.i64 | .u8,.u8 | .u16,.u16 | .u32,.u32 | .u64,.u64=>true
 | _,_=>false
def bn(P:Program)(t:TypeId):Option Nat:=(P.info? t).map (·.size)
def jz(P:Program)(t:TypeId):Option Bool:=(P.underlying t).map λ
 | .struct _ | .array _ _=>true
 | _=>false
def bT(P:Program)(t:TypeId):Option AV:=(P.info? t).bind λi=>i.zero.bind (fW depthV)
def partA(P:Program)(t:TypeId)(cs:List AV)(off:Nat):Option AV:=
 match jz P t with
 | some true=>(bn P t).bind λn=>cond (ble (off+n) cs.length) (some (.agg ((cs.drop off).take n))) none
 | some false=>cs[off]?
 | none=>none
def eqFields(P:Program)(eq:TypeId->AV->AV->Option Bool):List Field->List AV->List AV->Option Bool
 | [],_,_=>some true
 | f::fs,xs,ys=>
  cond (f.name== "_") none
   (
    match partA P f.type xs f.offset,partA P f.type ys f.offset with
    | some a,some b=>match eq f.type a b with
     | some true=>eqFields P eq fs xs ys
     | r=>r
    | _,_=>none)
def lg(P:Program)(eq:AV->AV->Option Bool)(e s:Nat)(xs ys:List AV):Nat->Nat->Option Bool
 | 0,_=>some true
 | m+1,i=>match partA P e xs (i*s),partA P e ys (i*s) with
  | some a,some b=>match eq a b with
   | some true=>lg P eq e s xs ys m (i+1)
   | r=>r
  | _,_=>none
def fU(P:Program):Nat->TypeId->AV->AV->Option Bool
 | 0,_,_,_=>none
 | d+1,t,x,y=>
  match P.underlying t,x,y with
  | some .bool,.bool a,.bool b=>some (a==b)
  | some (.int _),.int k a,.int k' b=>cond (pg k k') (some (CX a b)) none
  | some .string,.str a,.str b=>some (my a b)
  | some (.pointer _),.ptr none,.ptr b=>some b.isNone
  | some (.pointer _),.ptr (some _),.ptr none=>some false
  | some (.slice _),.slice none _ _ _,.slice b _ _ _=>some b.isNone
  | some (.slice _),.slice (some _) _ _ _,.slice none _ _ _=>some false
  | some (.map _ _),.map none,.map b=>some b.isNone
  | some (.map _ _),.map (some _),.map none=>some false
  | some (.func _ _ _),.dD,.dD=>some true
  | some (.func _ _ _),.dD,.fn ..=>some false
  | some (.func _ _ _),.fn ..,.dD=>some false
  | some (.struct fs),.agg xs,.agg ys=>
   cond (P.stoodInHeld t) none (eqFields P (fU P d) fs.toList xs ys)
  | some (.array n e),.agg xs,.agg ys=>(bn P e).bind λs=>lg P (fU P d e) e s xs ys n 0
  | _,_,_=>none
def dZ(eq:AV->AV->Bool):List AV->List AV->Bool
 | [],[]=>true
 | x::xs,y::ys=>eq x y&&dZ eq xs ys
 | _,_=>false
def dM:Nat->AV->AV->Bool
 | 0,_,_=>false
 | n+1,a,b=>match a,b with
  | .bool a,.bool b=>a==b
  | .int k a,.int k' b=>pg k k'&&CX a b
  | .str a,.str b=>my a b
  | .ptr none,.ptr none=>true
  | .ptr (some (a,b)),.ptr (some (c,d))=>beq a c&&beq b d
  | .slice (some (a,b)) l e c,.slice (some (a',b')) l' e' c'=>beq a a'&&beq b b'&&beq l l'&&beq e e'&&(match c,c' with | none,none=>true | some x,some y=>beq x y | _,_=>false)
  | .slice none l e (some c),.slice none l' e' (some c')=>beq l l'&&beq e e'&&beq c c'
  | .map none,.map none=>true
  | .map (some a),.map (some b)=>beq a b
  | .dD,.dD=>true
  | .nT,.nT=>true
  | .agg xs,.agg ys=>dZ (dM n) xs ys
  | .aO xs,.aO ys=>dZ (dM n) xs ys
  | .fn (.yield f) [] [],.fn (.yield f') [] []=>beq f f'
  | .fn (.func f) xs ys,.fn (.func f') xs' ys'=>beq f f'&&(dZ (dM n) xs xs'&&dZ (dM n) ys ys')
  | .iface t x,.iface t' y=>beq t t'&&dM n x y
  | .fn (.method f) xs ys,.fn (.method f') xs' ys'=>decide (f=f')&&(dZ (dM n) xs xs'&&dZ (dM n) ys ys')
  | _,_=>false
def gu:AV->Bool
 | .bool _ | .int _ _ | .str _=>true
 | _=>false
def sR:AV->Bool
 | .agg cs=>cs.all gu
 | v=>gu v
def stays(k gm:AV):Bool:=sR k&&dM 3 k gm
def H.cellsOf(h:H)(id:Nat):Option (List AV×Nat):=match h.aD.get id with
 | some (.cells cs aX)=>some (cs,aX)
 | _=>none
def H.gz(h:H)(cs:List AV):Nat×H:=
 (h.next,{ h with aD:=h.aD.put h.next (some (.cells cs h.next)),bW:=h.bW.put h.next (some (h.next,h.next)),next:=h.next+1 })
def H.newObj(h:H)(o:AO):Nat×H:=(h.next,{ h with aD:=h.aD.put h.next (some o),next:=h.next+1 })
def H.alone(h:H)(id aX:Nat):H:=match h.bW.get aX with
 | some (x,y)=>
  cond (beq x id&&beq y id) h
   { h with aD:=cond (beq y id) (h.aD.put x none) (cond (beq x id) (h.aD.put y none) ((h.aD.put x none).put y none)),bW:=h.bW.put aX (some (id,id)),low:=dF h.low (dF x y) }
 | none=>h
def fz:AV->Bool
 | .agg _ | .aO _ | .any=>false
 | _=>true
def H.cK(h:H)(id aX:Nat)(gm new:List AV):H:=
 let h1:=h.alone id aX
 { aD:=(h1.aD.put id (some (.cells gm aX))).put h1.next (some (.cells new aX)),bW:=h1.bW.put aX (some (id,h1.next)),next:=h1.next+1,low:=dF h1.low id }
def H.store(h:H)(id off:Nat)(vs:List AV):Option H:=match h.aD.get id with
 | some (.cells cs aX)=>
  cond (ble (off+vs.length) cs.length&&vs.all fz)
   (
    let h1:=h.alone id aX
    some { h1 with aD:=h1.aD.put id (some (.cells (cs.take off++(vs++cs.drop (off+vs.length))) aX)),low:=dF h1.low id })
   none
 | _=>none
def H.chunk(h:H)(id off n:Nat):Option (List AV):=match h.aD.get id with
 | some (.cells cs _)=>cond (ble (off+n) cs.length) (some ((cs.drop off).take n)) none
 | some (.ro cs)=>cond (ble (off+n) cs.length) (some ((cs.drop off).take n)) none
 | _=>none
def H.load(P:Program)(h:H)(t:TypeId)(id off:Nat):Option AV:=match jz P t with
 | some true=>(bn P t).bind λn=>(h.chunk id off n).map .agg
 | some false=>match h.aD.get id with
  | some (.cells cs _)=>cs[off]?
  | some (.ro cs)=>cs[off]?
  | _=>none
 | none=>none
def H.storeVar(P:Program)(h:H)(t:TypeId)(id off:Nat)(v:AV):Option H:=
 (bn P t).bind λn=>cond (beq v.cells.length n) (h.store id off v.cells) none
def ev(t:Tr AV):Operand->Option AV
 | .tmp i=>some (match t.get i with | some v=>v | none=>e7)
 | .const v=>fW depthV v
 | .func f=>some (.fn (.func f) [] [])
 | .global _=>none
def BN(t:Tr AV)(y:Option Operand):Option (Option AV):=match y with
 | none=>some none
 | some y=>(ev t y).map some
def nO(t:Tr AV)(l:List Operand):Option (List AV):=l.mapM (ev t)
def fb(place:Nat->Option (Nat×Nat))(cells:List AV):List (Nat×AV)->Option (List AV)
 | []=>some cells
 | (i,v)::rest=>match place i with
  | none=>none
  | some (off,size)=>
   cond (beq v.cells.length size&&ble (off+size) cells.length)
    (fb place (cells.take off++(v.cells++cells.drop (off+size))) rest) none
def rep(zero:List AV):Nat->List AV
 | 0=>[]
 | n+1=>zero++rep zero n
def gb(t:Tr AV)(l:List (Nat×Operand)):Option (List (Nat×AV)):=l.mapM λp=>(ev t p.2).map λv=>(p.1,v)
def mT(P:Program)(fs:Array Field)(i:Nat):Option (Nat×Nat):=(fs[i]?).bind λf=>(bn P f.type).map λs=>(f.offset,s)
def mD(P:Program)(t:TypeId)(parts:List (Nat×AV)):Option AV:=
 (bT P t).bind λz=>match P.underlying t with
  | some (.struct fs)=>cond (fs.toList.all λf=>(bn P f.type).isSome) ((fb (mT P fs) z.cells parts).map .agg) none
  | some (.array _ e)=>(bn P e).bind λs=>(fb (λi=>some (i*s,s)) z.cells parts).map .agg
  | _=>none
def bN:AV->Option Nat
 | .int _ (.ofNat n)=>some n
 | _=>none
def dK(P:Program)(t:TypeId)(len:Nat)(parts:List (Nat×AV)):Option (Nat×List AV):=
 match P.underlying t with
 | some (.slice e)=>
  (bn P e).bind λs=>(bT P e).bind λz=>
   cond (ble (len*s) 16777216&&(beq z.cells.length s&&!(beq s 0)))
    ((fb (λi=>some (i*s,s)) (rep z.cells len) parts).map λcs=>(s,cs))
    none
 | _=>none
def su(op:BinOp)(a b:Int):Option AV:=match op with
 | .eql=>some (.bool (CX a b))
 | .neq=>some (.bool (!(CX a b)))
 | .lss=>some (.bool (!(iJ b a)))
 | .leq=>some (.bool (iJ a b))
 | .gtr=>some (.bool (!(iJ a b)))
 | .geq=>some (.bool (iJ b a))
 | _=>none
def BQ:Int->Bool
 | .ofNat n=>beq n 0
 | _=>false
def bz(P:Program)(op:BinOp)(t:TypeId)(x y:AV):Option AV:=
 match x,y with
 | .int k a,.int k' b=>
  match op with
  | .shl | .shr=>cond (iJ 0 b&&iJ b 64) (match op with
   | .shl=>some (.int k (bR k (a*((2^(min b.toNat k.bits):Nat):Int))))
   | _=>some (.int k (a.fdiv ((2^(min b.toNat k.bits):Nat):Int)))) none
  | _=>
  cond (pg k k')
   (
    match op with
    | .add=>some (.int k (bR k (a+b)))
    | .sub=>some (.int k (bR k (a-b)))
    | .mul=>some (.int k (bR k (a*b)))
    | .quo=>cond (BQ b) none (some (.int k (bR k (a.tdiv b))))
    | .rem=>cond (BQ b) none (some (.int k (a.tmod b)))
    | .and | .or | .xor | .andNot=>none
    | _=>su op a b) none
 | .str a,.str b=>match op with
  | .add=>cond (ble (a.length+b.length) 1000000) (some (.str (a++b))) none
  | .eql=>some (.bool (my a b))
  | .neq=>some (.bool (!(my a b)))
  | .lss=>some (.bool (db a b))
  | .leq=>some (.bool (db a b||my a b))
  | .gtr=>some (.bool (!(db a b||my a b)))
  | .geq=>some (.bool (!(db a b)))
  | _=>none
 | .nT,_=>none
 | x,y=>match op with
  | .eql=>cond (P.eqGuardType P.depth t) none ((fU P 8 t x y).map .bool)
  | .neq=>cond (P.eqGuardType P.depth t) none ((fU P 8 t x y).map λb=>.bool (!b))
  | _=>none
def Es(op:UnOp)(x:AV):Option AV:=match op,x with
 | .neg,.int k n=>some (.int k (bR k (0-n)))
 | .not,.bool b=>some (.bool (!b))
 | _,_=>none
def fO(P:Program)(src dst:TypeId)(x:AV):Option AV:=match P.underlying src,P.underlying dst,x with
 | some _,some (.int k),.int _ n=>some (.int k (bR k n))
 | some _,some .string,.str s=>some (.str s)
 | _,_,_=>none
def fitsA(len:Nat)(cap:Option Nat)(n:Nat):Bool:=ble n len||(match cap with | some c=>ble n c | none=>false)
def gT(len:Nat)(cap:Option Nat)(hi:Option AV):Option Nat:=match hi with
 | some v=>(bN v).bind λh=>cond (fitsA len cap h) (some h) none
 | none=>some len
def br(len:Nat)(cap:Option Nat)(lo hi mx:Option AV):Option (Nat×Nat×Option Nat):=
 match mx with
 | some v=>(bN v).bind λm=>cond (fitsA len cap m)
  (
   match hi with
   | some v=>(bN v).bind λh=>cond (ble h m)
    (
     match lo with
     | some v=>(bN v).bind λl=>cond (ble l h) (some (l,h,some m)) none
     | none=>some (0,h,some m)) none
   | none=>none) none
 | none=>(gT len cap hi).bind λh=>match lo with
  | some v=>(bN v).bind λl=>cond (ble l h) (some (l,h,cap)) none
  | none=>some (0,h,cap)
def isSub:Option Nat->Nat->Option Nat
 | some c,l=>some (c-l)
 | none,_=>none
def mW(P:Program)(h:H)(t:TypeId)(x:AV)(lo hi mx:Option AV):Option AV:=
 match P.underlying t,x with
 | some (.array n e),.ptr (some (id,off))=>
  (bn P e).bind λs=>(br n (some n) lo hi mx).bind λ(l,hh,m)=>match m with
   | some m=>match h.aD.get id with
    | some (.cells cs _)=>cond (ble (off+n*s) cs.length) (some (.slice (some (id,off+l*s)) (hh-l) s (some (m-l)))) none
    | _=>none
   | none=>none
 | some .string,.str s=>match mx with
  | some _=>none
  | none=>(br s.length (some s.length) lo hi none).map λ(l,hh,_)=>.str ((s.drop l).take (hh-l))
 | some (.slice e),.slice o len es cap=>
  (bn P e).bind λs=>(br len cap lo hi mx).bind λ(l,hh,m)=>match o with
   | none=>some (.slice none 0 0 (some 0))
   | some (id,off)=>cond (beq s es) (some (.slice (some (id,off+l*s)) (hh-l) s (isSub m l))) none
 | _,_=>none
def dO(P:Program)(t:TypeId)(l c:AV):Option (Nat×Nat×Nat×List AV):=
 match P.underlying t with
 | some (.slice e)=>(bN l).bind λl=>(bN c).bind λc=>(P.info? e).bind λi=>(bT P e).bind λz=>
  cond (ble l c&&(ble c 1000000&&(ble i.bytes 10000&&(beq z.cells.length i.size&&!(beq i.size 0)))))
   (some (l,i.size,c,rep z.cells c)) none
 | _=>none
def fk(P:Program)(t:TypeId)(x i:AV):Option AV:=
 (bN i).bind λi=>match P.underlying t,x with
  | some (.array n e),.ptr (some (id,off))=>(bn P e).bind λs=>cond (blt i n) (some (.ptr (some (id,off+i*s)))) none
  | some (.slice e),.slice (some (id,off)) len es _=>(bn P e).bind λs=>cond (blt i len&&beq s es) (some (.ptr (some (id,off+i*s)))) none
  | _,_=>none
def mM(P:Program)(t:TypeId)(x i:AV):Option AV:=
 (bN i).bind λi=>match P.underlying t,x with
  | some (.array n e),.agg cs=>(bn P e).bind λs=>cond (blt i n) (partA P e cs (i*s)) none
  | some .string,.str s=>(s[i]?).map λb=>.int .u8 (cd b)
  | _,_=>none
def ew(P:Program)(s:TypeId)(x:AV)(f:Nat):Option AV:=
 match P.underlying s,x with
 | some (.struct fs),.ptr (some (id,off))=>(fs[f]?).bind λfd=>(bn P fd.type).bind λn=>cond (beq n 0) none (some (.ptr (some (id,off+fd.offset))))
 | _,_=>none
def mH(P:Program)(s:TypeId)(x:AV)(f:Nat):Option AV:=
 match P.underlying s,x with
 | some (.struct fs),.agg cs=>(fs[f]?).bind λfd=>partA P fd.type cs fd.offset
 | _,_=>none
def iw(P:Program)(ck:TypeId->AV->Bool):List Field->List AV->Bool
 | [],_=>true
 | f::fs,xs=>!(f.name== "_")&&((match partA P f.type xs f.offset with | some a=>ck f.type a | none=>false)&&iw P ck fs xs)
def ot(P:Program)(ck:AV->Bool)(e s:Nat)(xs:List AV):Nat->Nat->Bool
 | 0,_=>true
 | m+1,i=>(match partA P e xs (i*s) with | some a=>ck a | none=>false)&&ot P ck e s xs m (i+1)
def uD(P:Program):Nat->TypeId->AV->Bool
 | 0,_,_=>false
 | d+1,t,x=>match P.underlying t,x with
  | some .bool,.bool _ | some (.int _),.int _ _ | some .string,.str _=>true
  | some (.struct fs),.agg xs=>iw P (uD P d) fs.toList xs
  | some (.array n e),.agg xs=>match bn P e with
   | some s=>ot P (uD P d e) e s xs n 0
   | none=>false
  | _,_=>false
def nQ(P:Program)(t:TypeId)(k:AV):Bool:=uD P 4 t k
def dN(P:Program)(kt:TypeId)(k:AV):List (AV×AV×Nat)->Nat->Option (Option Nat)
 | [],_=>some none
 | e::es,i=>match fU P 4 kt k e.1 with
  | some true=>some (some i)
  | some false=>dN P kt k es (i+1)
  | none=>none
def H.mapOf(h:H)(id:Nat):Option (List (AV×AV×Nat)×Nat):=match h.aD.get id with
 | some (.map es c)=>some (es,c)
 | _=>none
def H.set(h:H)(id:Nat)(o:AO):H:={ h with aD:=h.aD.put id (some o),low:=dF h.low id }
def bP(P:Program)(t:TypeId):Option (TypeId×TypeId):=match P.underlying t with
 | some (.map k e)=>some (k,e)
 | _=>none
def setAt(x:AV×AV×Nat):List (AV×AV×Nat)->Nat->List (AV×AV×Nat)
 | [],_=>[]
 | _::es,0=>x::es
 | e::es,i+1=>e::setAt x es i
def jS(P:Program)(h:H)(t:TypeId)(x k:AV)(ok:Bool):Option AV:=
 (bP P t).bind λ(kt,et)=>cond (nQ P kt k)
  (let es:Option (List (AV×AV×Nat)):=match x with
   | .map none=>some []
   | .map (some id)=>(h.mapOf id).map (·.1)
   | _=>none
   es.bind λes=>(dN P kt k es 0).bind λr=>
    let v:Option (AV×Bool):=match r with
     | some i=>(es[i]?).map λe=>(e.2.1,true)
     | none=>(bT P et).map λz=>(z,false)
    v.map λ(v,b)=>cond ok (.aO [v,.bool b]) v) none
def fv(P:Program)(h:H)(t:TypeId)(x k v:AV):Option H:=
 (bP P t).bind λ(kt,_)=>cond (nQ P kt k)
  (
   match x with
   | .map (some id)=>(h.mapOf id).bind λ(es,c)=>(dN P kt k es 0).bind λr=>match r with
    | some i=>(es[i]?).bind λe=>cond (stays k e.1) (some (h.set id (.map (setAt (k,v,e.2.2) es i) c))) none
    | none=>some (h.set id (.map (es++[(k,v,c)]) (c+1)))
   | _=>none) none
def mO(P:Program)(h:H)(t:TypeId)(x k:AV):Option (AV×H):=
 (bP P t).bind λ(kt,et)=>cond (nQ P kt k)
  (
   match x with
   | .map (some id)=>(h.mapOf id).bind λ(es,c)=>(dN P kt k es 0).bind λr=>match r with
    | some i=>(es[i]?).bind λe=>cond (stays k e.1) (some (.aO [e.2.1,.int .i64 (cd e.2.2)],h.set id (.map (setAt (k,e.2.1,e.2.2) es i) c))) none
    | none=>(bT P et).map λz=>(.aO [z,.int .i64 (cd c)],h.set id (.map (es++[(k,z,c)]) (c+1)))
   | _=>none) none
def fi(b:Nat):List (AV×AV×Nat)->Nat->Option Nat
 | [],_=>none
 | e::es,i=>cond (beq e.2.2 b) (some i) (fi b es (i+1))
def js(h:H)(x stamp v:AV):Option H:=match x with
 | .map (some id)=>(h.mapOf id).bind λ(es,c)=>(bN stamp).bind λb=>(fi b es 0).bind λi=>(es[i]?).map λe=>h.set id (.map (setAt (e.1,v,e.2.2) es i) c)
 | _=>none
def mU(P:Program)(h:H)(t:TypeId)(x:AV):Option (AV×H):=match P.underlying t,x with
 | some .string,.str s=>let (id,h):=h.newObj (.Ar s 0);some (.ptr (some (id,0)),h)
 | some (.map _ _),.map none=>let (id,h):=h.newObj (.eg none 0 [] 0);some (.ptr (some (id,0)),h)
 | some (.map _ _),.map (some m)=>(h.mapOf m).map λ(_,c)=>let (id,h):=h.newObj (.eg (some m) c [] c);(.ptr (some (id,0)),h)
 | _,_=>none
def seenIn(b:Nat):List Nat->Bool
 | []=>false
 | x::xs=>beq x b||seenIn b xs
def jq(h:H)(id m since:Nat)(seen:List Nat)(clock:Nat)(gm new:List (AV×AV×Nat)):List (AV×H):=
 (cond gm.isEmpty [(.aO [.bool false],h)] [])++(gm++new).map λe=>(.aO [.bool true,e.1,e.2.1],h.set id (.eg (some m) since (seen++[e.2.2]) clock))
def pF(h:H)(x:AV)(isString:Bool):R (AV×H):=match x with
 | .ptr (some (id,0))=>match h.aD.get id,isString with
  | some (.eg none _ _ _),false=>one (.aO [.bool false],h)
  | some (.eg (some m) since seen last),false=>(h.mapOf m).bind λ(es,clock)=>
   cond (!seen.isEmpty&&(!es.isEmpty&&es.all (λe=>ble last e.2.2))) none
    (some (jq h id m since seen clock ((es.filter λe=>!(seenIn e.2.2 seen)).filter λe=>blt e.2.2 since) ((es.filter λe=>!(seenIn e.2.2 seen)).filter λe=>!(blt e.2.2 since))))
  | _,_=>none
 | _=>none
def mF(h:H)(x:AV):Option AV:=match x with
 | .ptr (some (id,0))=>match h.aD.get id with
  | some (.eg (some m) _ seen stepped)=>match seen.getLast? with
   | some stamp=>(h.mapOf m).bind λ(es,c)=>cond (beq c stepped)
    ((fi stamp es 0).bind λi=>(es[i]?).map λe=>.aO [e.1,e.2.1]) none
   | none=>none
  | _=>none
 | _=>none
def bo(h:H)(o:Option (Nat×Nat))(n es:Nat):Option (List AV):=match o with
 | none=>cond (beq n 0) (some []) none
 | some (id,off)=>cond (beq n 0) (some []) (h.chunk id off (n*es))
def gj(P:Program)(h:H)(e s:Nat)(xt:TypeId)(x:AV):Option (Nat×List AV):=
 match P.underlying xt with
 | some (.int _)=>(bN x).bind λn=>(bT P e).bind λz=>cond (ble n 1000000&&beq z.cells.length s) (some (n,rep z.cells n)) none
 | some _=>match x with
  | .slice o n es _=>cond (beq es s||beq n 0) ((bo h o n s).map λcs=>(n,cs)) none
  | _=>none
 | none=>none
def kX(P:Program)(h:H)(st xt:TypeId)(x y:AV):Option (AV×H):=
 match P.underlying st,x with
 | some (.slice e),.slice o len es cap=>(P.info? e).bind λi=>(bT P e).bind λz=>
  cond (beq z.cells.length i.size&&(!(beq i.size 0)&&(ble len 1000000&&ble i.bytes 10000)))
   (
    (gj P h e i.size xt y).bind λ(n,cs)=>
    cond (beq n 0) (some (x,h))
     (cond (ble n 1000000)
      (
       match o with
       | none=>
        let (id,h):=h.gz cs
        some (.slice (some (id,0)) n i.size none,h)
       | some (id,off)=>cond (beq es i.size)
        (
         match cap with
         | some c=>cond (ble (len+n) c)
          ((h.store id (off+len*es) cs).map λh=>(.slice o (len+n) es cap,h))
          ((
           bo h o len es).map λgm=>
           let (id,h):=h.gz (gm++cs)
           (.slice (some (id,0)) (len+n) es none,h))
         | none=>match h.aD.get id with
          | some (.cells bs aX)=>cond (ble (off+len*es) bs.length)
           (cond (cs.all fz) (some (.slice (some ((h.alone id aX).next,0)) (len+n) es none,
            h.cK id aX (bs.take (off+len*es)) ((bs.drop off).take (len*es)++cs))) none) none
          | _=>none) none) none)) none
 | _,_=>none
def uE(P:Program)(h:H)(dt:TypeId)(x y:AV):Option (AV×H):=match P.underlying dt,x,y with
 | some (.slice e),.slice o dl des _,.slice o' sl ses _=>(bn P e).bind λs=>
  let n:=Nat.min sl dl
  cond (beq n 0) (some (.int .i64 0,h))
   (cond (beq des s&&beq ses s)
    ((
     bo h o' n s).bind λcs=>match o with
     | some (id,off)=>(h.store id off cs).map λh=>(.int .i64 (cd n),h)
     | none=>none) none)
 | _,_,_=>none
def va(P:Program)(h:H)(t:TypeId)(x:AV):Option AV:=
 (
  (match P.underlying t,x with
  | some .string,.str s=>some s.length
  | some (.array n _),_=>some n
  | some (.slice _),.slice _ n _ _=>some n
  | some (.map _ _),.map none=>some 0
  | some (.map _ _),.map (some id)=>(h.mapOf id).map λm=>m.1.length
  | _,_=>none):Option Nat).map λn=>.int .i64 (cd n)
def kI(isMax:Bool)(x y:AV):Option AV:=match x,y with
 | .int k a,.int _ b=>some (.int k (cond isMax (cond (iJ b a) a b) (cond (iJ a b) a b)))
 | .str a,.str b=>some (.str (cond isMax (cond (db a b) b a) (cond (db a b||my a b) a b)))
 | _,_=>none
def gS(isMax:Bool):AV->List AV->Option AV
 | x,[]=>some x
 | x,y::l=>(kI isMax x y).bind λz=>gS isMax z l
def ld(P:Program)(h:H)(t:TypeId)(x k:AV):Option (AV×H):=
 (bP P t).bind λ(kt,_)=>cond (nQ P kt k)
  (
   match x with
   | .map none=>some (.aO [],h)
   | .map (some id)=>(h.mapOf id).bind λ(es,c)=>(dN P kt k es 0).map λr=>match r with
    | some i=>(.aO [],h.set id (.map (es.eraseIdx i) c))
    | none=>(.aO [],h)
   | _=>none) none
def oT(P:Program)(h:H)(t:TypeId)(x:AV):Option (AV×H):=match P.underlying t,x with
 | some (.slice _),.slice none _ _ _=>some (.aO [],h)
 | some (.slice e),.slice (some (id,off)) n es _=>(bn P e).bind λs=>(bT P e).bind λz=>
  cond (beq n 0) (some (.aO [],h)) (cond (beq s es&&beq z.cells.length s) ((h.store id off (rep z.cells n)).map λh=>(.aO [],h)) none)
 | _,_=>none
def gq(P:Program)(h:H)(b:Builtin)(ats:List TypeId)(xs:List AV):Option (AV×H):=match b,ats,xs with
 | .append,st::xt::_,[x,y]=>kX P h st xt x y
 | .len,t::_,x::_=>(va P h t x).map λv=>(v,h)
 | .cap,t::_,[.slice _ _ _ (some c)]=>match P.underlying t with
  | some (.slice _)=>some (.int .i64 (cd c),h)
  | _=>none
 | .copy,dt::_,x::y::_=>uE P h dt x y
 | .min,_,x::l=>(gS false x l).map λv=>(v,h)
 | .max,_,x::l=>(gS true x l).map λv=>(v,h)
 | .delete,t::_,x::k::_=>ld P h t x k
 | .clear,t::_,x::_=>oT P h t x
 | _,_,_=>none
def ep(P:Program)(t:TypeId)(name:String):Option FuncId:=(P.info? t).bind λi=>
 (i.methods.find? (·.name==name)).bind λm=>match m.path.isEmpty,m.func with
  | true,some (f,false)=>match P.underlying t with
   | some (.struct _) | some (.int _) | some .string | some (.slice _)=>some f
   | _=>none
  | _,_=>none
def iE(P:Program)(x:AV):Option AV:=match x with
 | .ptr (some _)=>some x
 | .fn (.func _) _ _=>some x
 | .fn (.method name) [.iface t _] _=>(ep P t name).map λ_=>x
 | .slice ..=>some x
 | _=>none
def iM(P:Program)(t:Tr AV)(o:Op)(id:Nat):Option (AV×AO):=match o with
 | .alloc e=>(bT P e).map λz=>(.ptr (some (id,0)),.cells z.cells id)
 | .box _ x=>(ev t x).map λx=>(.ptr (some (id,0)),.cells x.cells id)
 | .buildSlice tt n ps=>(gb t ps.toList).bind λps=>(dK P tt n ps).map λ(s,cs)=>(.slice (some (id,0)) n s (some n),.cells cs id)
 | .makeMap tt r=>match r with
  | none=>some (.map (some id),.map [] 0)
  | some x=>match ev t x,bP P tt with
   | some (.int _ _),some _=>some (.map (some id),.map [] 0)
   | _,_=>none
 | .makeSlice tt l c=>(ev t l).bind λl=>(ev t c).bind λc=>(dO P tt l c).map λ(l,s,c,cs)=>(.slice (some (id,0)) l s (some c),.cells cs id)
 | _=>none
def C2:Op->Bool
 | .alloc _ | .box _ _ | .buildSlice _ _ _ | .makeMap _ _ | .makeSlice _ _ _=>true
 | _=>false
def H.lay(h:H)(id:Nat)(o:AO):H:=match o with
 | .cells _ _=>{ h with aD:=h.aD.put id (some o),bW:=h.bW.put id (some (id,id)) }
 | _=>{ h with aD:=h.aD.put id (some o) }
def cJ(P:Program)(t:Tr AV)(h:H)(o:Op):R (Option AV×H):=
 let v (r:Option AV):R (Option AV×H):=r.map λx=>[(some x,h)]
 let vh (r:Option (AV×H)):R (Option AV×H):=r.map λx=>[(some x.1,x.2)]
 let u (r:Option H):R (Option AV×H):=r.map λx=>[(none,x)]
 match o with
 | .move x | .assign x=>v (ev t x)
 | .pick c a b=>(ev t a).bind λa=>(ev t b).bind λb=>match ev t c with
  | some (.bool true)=>v (some a)
  | some (.bool false)=>v (some b)
  | _=>none
 | .alloc _ | .box _ _ | .buildSlice _ _ _ | .makeMap _ _ | .makeSlice _ _ _=>
  vh ((iM P t o h.next).map λ(v,ob)=>(v,{ h.lay h.next ob with next:=h.next+1 }))
 | .build tt ps=>v ((gb t ps.toList).bind λps=>mD P tt ps)
 | .load tt a=>match ev t a with
  | some (.ptr (some (id,off)))=>v (h.load P tt id off)
  | _=>none
 | .store tt a x=>match ev t a,ev t x with
  | some (.ptr (some (id,off))),some x=>u (h.storeVar P tt id off x)
  | _,_=>none
 | .nilCheck x=>v ((ev t x).bind (iE P))
 | .binOp op xt x y _=>v ((ev t x).bind λx=>(ev t y).bind λy=>bz P op xt x y)
 | .unOp op _ x=>v ((ev t x).bind (Es op))
 | .convert s d x=>v ((ev t x).bind (fO P s d))
 | .makeInterface xt x=>match P.underlying xt with
  | some (.interface _)=>none
  | some _=>v ((ev t x).map λx=>.iface xt x)
  | none=>none
 | .makeFunc f first cap=>match f with
  | .yield _=>none
  | f=>v ((nO t first.toList).bind λa=>(nO t cap.toList).map λb=>.fn f a b)
 | .slice tt x lo hi mx=>v ((ev t x).bind λx=>(BN t lo).bind λlo=>(BN t hi).bind λhi=>(BN t mx).bind λmx=>mW P h tt x lo hi mx)
 | .fieldAddr s x f=>v ((ev t x).bind λx=>ew P s x f)
 | .field s x f=>v ((ev t x).bind λx=>mH P s x f)
 | .indexAddr tt x i=>v ((ev t x).bind λx=>(ev t i).bind λi=>fk P tt x i)
 | .index tt x i=>v ((ev t x).bind λx=>(ev t i).bind λi=>mM P tt x i)
 | .lookup tt x k ok=>v ((ev t x).bind λx=>(ev t k).bind λk=>jS P h tt x k ok)
 | .mapUpdate tt m k x | .insert tt m k x=>u ((ev t m).bind λm=>(ev t k).bind λk=>(ev t x).bind λx=>fv P h tt m k x)
 | .mapEntry tt m k=>vh ((ev t m).bind λm=>(ev t k).bind λk=>mO P h tt m k)
 | .entryStore _ m s x=>u ((ev t m).bind λm=>(ev t s).bind λs=>(ev t x).bind λx=>js h m s x)
 | .range tt x=>vh ((ev t x).bind λx=>mU P h tt x)
 | .next it isS=>match ev t it with
  | some it=>(pF h it isS).map λl=>l.map λx=>(some x.1,x.2)
  | none=>none
 | .entry it=>v ((ev t it).bind λit=>mF h it)
 | .extract x i=>match ev t x with
  | some (.aO vs)=>v vs[i]?
  | _=>none
 | .typeAssert x _ asserted ok=>match P.underlying asserted with
  | some (.interface _)=>none
  | some _=>match ev t x with
   | some (.iface d y)=>cond (beq d asserted) (v (some (cond ok (.aO [y,.bool true]) y))) none
   | _=>none
  | none=>none
 | .call { callee:=.builtin b,args,argTypes }=>vh ((nO t args.toList).bind λxs=>gq P h b argTypes.toList xs)
 | _=>none
inductive DV where
 | fl (a:AV)
 | sl (nl:Bool) (n e:Nat) (cs:List DV)
 | ag (cs:List DV)
 deriving Inhabited
def dL:AV->AV->Bool
 | .bool a,.bool b=>Bool.rec (Bool.rec true false b) b a
 | .int k a,.int k' b=>pg k k'&&CX a b
 | .str a,.str b=>my a b
 | _,_=>false
mutual
def DV.eq:DV->DV->Bool
 | .fl a,.fl b=>dL a b
 | .sl x n e cs,.sl y m g ds=>(Bool.rec (Bool.rec true false y) y x)&&(beq n m&&(beq e g&&DV.my cs ds))
 | .ag cs,.ag ds=>DV.my cs ds
 | _,_=>false
def DV.my:List DV->List DV->Bool
 | [],[]=>true
 | a::aS,b::bs=>DV.eq a b&&DV.my aS bs
 | _,_=>false
end
def rowAt(h:H)(id:Nat):Option (List AV):=match h.aD.get id with
 | some (.cells cs _)=>some cs
 | some (.ro cs)=>some cs
 | _=>none
def Ci(h:H):Nat->AV->Option DV
 | 0,_=>none
 | k+1,a=>match a with
  | .slice none 0 e (some 0)=>some (.sl true 0 e [])
  | .slice (some (id,off)) n e _=>cond (beq n 0||ble h.next id) none
   ((rowAt h id).bind λrow=>cond (ble (off+n*e) row.length) ((((row.drop off).take (n*e)).mapM (Ci h k)).map λcs=>.sl false n e cs) none)
  | .agg aS=>(aS.mapM (Ci h k)).map .ag
  | a=>cond (gu a) (some (.fl a)) none
mutual
def canon:DV->Nat->AV×List (Option (List AV))
 | .fl a,_=>(a,[])
 | .sl nl n e cs,k=>match nl with
  | true=>(.slice none 0 e (some 0),[])
  | false=>(.slice (some (k,0)) n e none,(match n with | 0=>none | _=>some (cQ cs (k+1)).1)::(cQ cs (k+1)).2)
 | .ag cs,k=>(.agg (cQ cs k).1,(cQ cs k).2)
def cQ:List DV->Nat->List AV×List (Option (List AV))
 | [],_=>([],[])
 | d::ds,k=>((canon d k).1::(cQ ds (k+(canon d k).2.length)).1,(canon d k).2++(cQ ds (k+(canon d k).2.length)).2)
end
def DP:List (List DV×AV)->List DV->Option AV
 | [],_=>none
 | (ds,v)::l,es=>cond (DV.my ds es) (some v) (DP l es)
inductive Ex where
 | normal | ret
 | exit (id:Nat)
 | goto (l:Nat)
 deriving Inhabited
abbrev CV:=Fn->List AV->H->R (AV×H)
def St.put(st:St)(dst:Option Tmp)(v:AV):Option St:=match dst with
 | none=>some st
 | some d=>match st with
  | ⟨t,n,h,ds⟩=>cond (blt d n) (some ⟨t.put d (some v),n,h,ds⟩) none
def St.E3(st:St)(h:H):St:=match st with
 | ⟨t,n,_,ds⟩=>⟨t,n,h,ds⟩
def mr(ops:List Oper)(t:Tr AV)(n:Nat)(o:Oper):Option Bool:=match o.guard with
 | none=>some true
 | some (j,want)=>match (ops[j]?).bind (·.dst) with
  | some d=>cond (blt d n) (match t.get d with
   | some (.bool b)=>some (b==want)
   | some (.aO []) | none=>some false
   | _=>none) none
  | none=>none
def iT(P:Program)(t:Tr AV)(c:Call):Option (Fn×List AV×List AV):=match c.callee with
 | .value f=>match ev t f with
  | some (.fn fn first cap)=>(nO t c.args.toList).map λxs=>(fn,first++xs,cap)
  | _=>none
 | .invoke r name=>match ev t r with
  | some (.iface tt v)=>(ep P tt name).bind λf=>(nO t c.args.toList).map λxs=>(.func f,v::xs,[])
  | _=>none
 | .builtin _=>none
def dg:Op->Bool
 | .call { callee:=.builtin _,.. }=>false
 | .call _=>true
 | _=>false
def Fx(P:Program)(cv:CV)(ro:Option Nat)(o:Oper)(st:St):R St:=
 match o.op with
 | .defer c=>match ro with
  | some _=>none
  | none=>match c.callee with
   | .value g=>match ev st.t g with
    | some (.fn (.func f) first cap)=>match nO st.t c.args.toList with
     | some xs=>(({ st with ds:={ fn:=some (.func f),tT:=0,args:=first++xs,cap }::st.ds }:St).put o.dst e7).map λs=>[s]
     | none=>none
    | _=>none
   | _=>none
 | op=>cond (dg op)
  (
   match op with
   | .call c=>match iT P st.t c with
    | some (fn,xs,cap)=>DG (cv fn (xs++cap) st.h) λ(v,h)=>((st.E3 h).put o.dst v).map λs=>[s]
    | none=>none
   | _=>none)
  (DG (cJ P st.t st.h op) λ(v,h)=>((st.E3 h).put o.dst (match v with | some v=>v | none=>e7)).map λs=>[s])
def ng:Op->Bool
 | .store .. | .entryStore .. | .mapUpdate .. | .insert .. | .mapEntry .. | .next .. | .defer _ | .range ..=>true
 | .call { callee:=.builtin b,.. }=>match b with | .len | .cap | .min | .max=>false | _=>true
 | .call _=>true
 | _=>false
def bit(i:Nat):Nat:=2^i
def aY(m i:Nat):Bool:=Nat.testBit m i
def iD:List Oper->List Nat->List Nat
 | [],acc=>acc
 | o::rest,acc=>iD rest (acc++[o.after.toList.foldl (λm e=>cond (Region.binds .any e) (lor m (lor (bit e.on) (acc.getD e.on 0))) m) 0])
def tmpsOf(o:Oper):List Tmp:=o.op.operands.toList.filterMap λ| .tmp t=>some t | _=>none
def ea(ops:List Oper)(o:Oper):List Tmp:=tmpsOf o++(match o.guard with
 | some (j,_)=>match (ops[j]?).bind (·.dst) with
  | some d=>[d]
  | none=>[]
 | none=>[])
def DT(t:Tr AV):List Tmp->Tr AV
 | []=>.nil
 | k::l=>(DT t l).put k (t.get k)
def bF{α:Type}:Nat->List α->List (Nat×α)
 | _,[]=>[]
 | i,x::xs=>(i,x)::bF (i+1) xs
def D9(base:Nat)(m:Nat):List (Nat×AO)->H->H
 | [],h=>h
 | (i,o)::xs,h=>D9 base m xs (cond (aY m i) (h.lay (base+i) o) h)
structure Dr where
 t:Tr AV
 c:H
 xs:List (Nat×AO)
 all:List (Nat×AO)
 m:Nat
 cs:List (Nat×Nat×H)
 reads:List (Nat×Tr AV×Op×AV)
 deriving Inhabited
def Dr.Dt(d:Dr)(n:Nat)(dst:Option Tmp)(v:AV):Option Dr:=match dst with
 | none=>some d
 | some k=>cond (blt k n) (some { d with t:=d.t.put k (some v) }) none
def EN(P:Program)(cv:CV)(ro:Option Nat)(base:Nat)(all:List Oper)(ms:List Nat)(n:Nat)(i:Nat)(o:Oper)(d:Dr):Option Dr:=
 let r:=DT d.t (ea all o)
 match mr all r n o with
 | none=>none
 | some false=>d.Dt n o.dst e7
 | some true=>
  cond (ng o.op)
   (
    match Fx P cv ro o { t:=r,n,h:=D9 base (ms.getD i 0) d.xs d.c,ds:=[] } with
    | some [st]=>(d.Dt n o.dst (match o.dst with | some k=>(st.t.get k).getD e7 | none=>e7)).map λd=>
     { d with c:=st.h,xs:=d.xs.filter (λx=>!(aY (ms.getD i 0) x.1)),m:=lor d.m (ms.getD i 0),cs:=d.cs++[(i,lor d.m (ms.getD i 0),st.h)] }
    | _=>none)
   (cond (C2 o.op)
    (
     match iM P r o.op (base+i) with
     | some (v,ob)=>(d.Dt n o.dst v).map λd=>{ d with xs:=d.xs++[(i,ob)],all:=d.all++[(i,ob)] }
     | none=>none)
    (
     match cJ P r (D9 base (ms.getD i 0) d.xs d.c) o.op with
     | some [(some v,_)]=>(d.Dt n o.dst v).map λd=>{ d with reads:=d.reads++[(i,r,o.op,v)] }
     | _=>none))
def H.iZ(h:H)(id:Nat):Option (LoopState×Option Code×Tr AV×Nat×Array Tmp×Code×Code×Nat):=match h.aD.get id with
 | some (.loop st p t n ps a b d)=>some (st,p,t,n,ps,a,b,d)
 | _=>none
def sw(ro:Option Nat)(ps:Array Tmp)(assign body:Code)(st:St):Option (Nat×St):=match ro with
 | some l=>(st.h.iZ l).map λr=>
  let (id,h):=st.h.newObj (.loop .ready none st.t st.n ps assign body r.2.2.2.2.2.2.2)
  (id,{ st with h:=h })
 | none=>
  let (r,h):=st.h.newObj (.ik false)
  let (id,h):=h.newObj (.loop .ready none st.t st.n ps assign body r)
  some (id,{ st with h:=h,ds:={ fn:=none,tT:=r,args:=[],cap:=[] }::st.ds })
def oK:Nat->List AV->Tr AV->Tr AV
 | _,[],t=>t
 | i,x::xs,t=>oK (i+1) xs (t.put i (some x))
def lO(P:Program)(t:Tr AV)(h:H)(rs:List ResultVar):Option AV:=
 (rs.mapM λ
  | ResultVar.tmp i=>ev t (.tmp i)
  | ResultVar.cell a tt=>match ev t (.tmp a) with
   | some (.ptr (some (id,off)))=>h.load P tt id off
   | _=>none).map λvs=>match vs with
  | [v]=>v
  | vs=>.aO vs
def fj:Ex->Bool
 | .normal | .ret=>true
 | _=>false
inductive XK where
 | indexByte | cmp | clone | name
 | sort1 (ts:List TypeId)
 | const (v:AV)
 | deep (tbl:List (List DV×AV))
 deriving Inhabited
def di(c:Nat):List Nat->Nat->Int
 | [],_ => -1
 | b::l,i=>cond (beq b c) (cd i) (di c l (i+1))
def bJ(b:Nat):Bool:=(ble 97 b&&ble b 122)||(ble 65 b&&ble b 90)
def dC(b:Nat):Bool:=bJ b||((ble 48 b&&ble b 57)||beq b 95)
def nameN:List Nat->Bool
 | []=>false
 | b::l=>bJ b&&(l.all dC&&ble l.length 23)
def xA(k:XK)(args:List AV)(h:H):Option (AV×H):=match k,args with
 | .indexByte,[.str s,.int .u8 (.ofNat c)]=>cond (blt c 256) (some (.int .i64 (di c s 0),h)) none
 | .cmp,[.str a,.str b]=>some (.int .i64 (cond (db a b) (-1) (cond (my a b) 0 1)),h)
 | .clone,[.iface t (.map (some id))]=>(h.mapOf id).map λ(es,c)=>(.iface t (.map (some h.next)),{ h.lay h.next (.map es c) with next:=h.next+1 })
 | .name,[.str s]=>cond (ble s.length 1000000) (some (.bool (nameN s),h)) none
 | .const v,[]=>some (v,h)
 | .deep tbl,args=>(args.mapM (Ci h 8)).bind λds=>(DP tbl ds).map λv=>(v,h)
 | .sort1 ts,[.iface t (.slice _ n _ _),.fn _ _ _]=>cond (ble n 1&&ts.any (beq t)) (some (.aO [],h)) none
 | _,_=>none
def eH:List (Nat×AV)->Nat->Tr AV->Option (Tr AV)
 | [],_,t=>some t
 | (k,v)::l,n,t=>cond (blt k n) (eH l n (t.put k (some v))) none
def get_nil{α:Type}(k:Nat):(Tr.nil:Tr α).get k=none:=rfl
def bD{a b:Nat}(h:beq a b=true):a=b:=Nat.eq_of_beq_eq_true h
def Bn{a b:Nat}(h:a=b):Nat.beq a b=true:=by subst h;simp
def eu{a b:Nat}(h:ble a b=true):a<=b:=cf h
def cP{a b:Nat}(h:a<=b):Nat.ble a b=true:=by simpa using h
def df{a b:Nat}(h:blt a b=true):a<b:=cf h
def ab{α:Sort _}(a b:α):cond true a b=a:=rfl
def ah{α:Sort _}(a b:α):cond false a b=b:=rfl
def Az{α:Type}(b:Bool)(x y:α):Bool.rec (motive:=λ_=>α) y x b=cond b x y:=by cases b<;>rfl
def eR{α:Type}(v:Option α)(l r:Tr α)(k:Nat):
 (Tr.node v l r).get k=if k=0 then v else if k%2=1 then l.get ((k-1)/2) else r.get ((k-1)/2):=by
 have e:(Tr.node v l r).get k=cond (beq k 0) v (cond (beq (k%2) 1) (l.get ((k-1)/2)) (r.get ((k-1)/2))):=by
  rw[<-Az,<-Az];rfl
 rw[e];by_cases h0:k=0
 ·simp[h0]
 ·have e0:beq k 0=false:=by cases k<;>simp_all [beq]
  rw[e0,ah,ul h0];by_cases h1:k%2=1
  ·have e1:beq (k%2) 1=true:=Bn h1;rw[e1,ab,t8 h1]
  ·have e1:beq (k%2) 1=false:=by
    cases hb:beq (k%2) 1
    ·rfl
    ·exact t7 (bD hb) h1
   rw[e1,ah,ul h1]
def AP{α:Type}(x:Option α)(f k:Nat):
 Tr.lone x (f+1) k=if k=0 then .node x .nil .nil else if k%2=1 then .node none (Tr.lone x f ((k-1)/2)) .nil else .node none .nil (Tr.lone x f ((k-1)/2)):=by
 have e:Tr.lone x (f+1) k=cond (beq k 0) (.node x .nil .nil) (cond (beq (k%2) 1) (.node none (Tr.lone x f ((k-1)/2)) .nil) (.node none .nil (Tr.lone x f ((k-1)/2)))):=by
  rw[<-Az,<-Az];rfl
 rw[e];by_cases h0:k=0
 ·simp[h0]
 ·have e0:beq k 0=false:=by cases k<;>simp_all [beq]
  rw[e0,ah,ul h0];by_cases h1:k%2=1
  ·have e1:beq (k%2) 1=true:=Bn h1;rw[e1,ab,t8 h1]
  ·have e1:beq (k%2) 1=false:=by
    cases hb:beq (k%2) 1
    ·rfl
    ·exact t7 (bD hb) h1
   rw[e1,ah,ul h1]
def Ch{α:Type}(v:Option α)(l r:Tr α)(k:Nat)(x:Option α):
 (Tr.node v l r).put k x=if k=0 then .node x l r else if k%2=1 then .node v (l.put ((k-1)/2) x) r else .node v l (r.put ((k-1)/2) x):=by
 have e:(Tr.node v l r).put k x=cond (beq k 0) (.node x l r) (cond (beq (k%2) 1) (.node v (l.put ((k-1)/2) x) r) (.node v l (r.put ((k-1)/2) x))):=by
  rw[<-Az,<-Az];rfl
 rw[e];by_cases h0:k=0
 ·simp[h0]
 ·have e0:beq k 0=false:=by cases k<;>simp_all [beq]
  rw[e0,ah,ul h0];by_cases h1:k%2=1
  ·have e1:beq (k%2) 1=true:=Bn h1;rw[e1,ab,t8 h1]
  ·have e1:beq (k%2) 1=false:=by
    cases hb:beq (k%2) 1
    ·rfl
    ·exact t7 (bD hb) h1
   rw[e1,ah,ul h1]
def pn{α:Type}(x:Option α):∀(f k j:Nat),k<f->(Tr.lone x f k).get j=if j=k then x else none
 | 0,k,j,h=>by omega
 | f+1,k,j,h=>by
  rw[AP];by_cases h0:k=0
  ·subst h0;rw[t8 rfl,eR];simp only[get_nil];by_cases hj:j=0<;>simp[hj]
  ·rw[ul h0];by_cases h1:k%2=1
   ·rw[t8 h1,eR,pn x f _ _ (by omega)];simp only[get_nil];by_cases hj:j=0
    ·rw[t8 hj,ul (by omega)]
    ·rw[ul hj];by_cases hj1:j%2=1
     ·rw[t8 hj1];by_cases e:j=k
      ·subst e;simp
      ·rw[ul (by omega),ul e]
     ·rw[ul hj1,ul (by omega)]
   ·rw[ul h1,eR,pn x f _ _ (by omega)];simp only[get_nil];by_cases hj:j=0
    ·rw[t8 hj,ul (by omega)]
    ·rw[ul hj];by_cases hj1:j%2=1
     ·rw[t8 hj1,ul (by omega)]
     ·rw[ul hj1];by_cases e:j=k
      ·subst e;simp
      ·rw[ul (by omega),ul e]
def bU{α:Type}(t:Tr α)(k j:Nat)(x:Option α):(t.put k x).get j=if j=k then x else t.get j:=by
 induction t generalizing k j with
 | nil=>
  have e:(Tr.nil:Tr α).put k x=Tr.lone x (k+1) k:=rfl;rw[e,pn x _ _ _ (by omega),get_nil]
 | node v l r il ir=>
  rw[Ch];by_cases h0:k=0
  ·subst h0;rw[t8 rfl,eR,eR];by_cases hj:j=0<;>simp[hj]
  ·rw[ul h0];by_cases h1:k%2=1
   ·rw[t8 h1,eR,eR,il];by_cases hj:j=0
    ·simp only[hj,if_true];rw[ul (by omega)]
    ·simp only[hj,if_false];by_cases hj1:j%2=1
     ·simp only[hj1,if_true];by_cases e:j=k
      ·simp[e]
      ·rw[ul (by omega),ul e]
     ·simp only[hj1,if_false];rw[ul (by omega)]
   ·rw[ul h1,eR,eR,ir];by_cases hj:j=0
    ·simp only[hj,if_true];rw[ul (by omega)]
    ·simp only[hj,if_false];by_cases hj1:j%2=1
     ·simp only[hj1,if_true];rw[ul (by omega)]
     ·simp only[hj1,if_false];by_cases e:j=k
      ·simp[e]
      ·rw[ul (by omega),ul e]
def bC{α:Type}(t:Tr α)(k:Nat)(x:Option α):(t.put k x).get k=x:=by rw[bU,t8 rfl]
def aJ{α:Type}(t:Tr α){k j:Nat}(x:Option α)(h:j≠k):(t.put k x).get j=t.get j:=by rw[bU,ul h]
def aw{α:Type}{c:Bool}{x:Option α}{y:α}(h:cond c x none=some y):c=true/\x=some y:=by
 cases c
 ·simp at h
 ·exact⟨rfl,h⟩
def dT{a b:Nat}(h:beq a b=false):a≠b:=λe=>by subst e;simp at h
def oq{a b:Nat}(h:ble a b=false):b<a:=by
 apply Nat.lt_of_not_le;intro e;rw[cP e] at h;simp at h
def yY{a b:Nat}(h:blt a b=false):b<=a:=by
 have:=oq h;omega
def dj(a b:Int):iJ a b=decide (a<=b):=by
 unfold iJ
 cases h:b-a with
 | ofNat n=>
  have:a<=b:=by have:=Int.natCast_nonneg n;simp only[Int.ofNat_eq_natCast] at h;omega
  simp[this]
 | negSucc n=>
  have:¬a<=b:=by have:=Int.negSucc_lt_zero n;omega
  simp[this]
def lh(a b:Int):CX a b=(a==b):=by
 unfold CX;rw[dj,dj];by_cases h:a=b
 ·subst h;simp
 ·have:(a==b)=false:=by simpa using h
  rw[this];by_cases h1:a<=b
  ·have:¬b<=a:=by omega
   simp[h1,this]
  ·simp[h1]
def ox(a b:IntKind):pg a b=true↔a=b:=by cases a<;>cases b<;>simp[pg]
def dS(k:IntKind)(n:Int):bR k n=k.wrap n:=by
 unfold bR;cases hc:iJ (xe k) n&&iJ n (xd k)
 ·rfl
 ·rw[ab];simp only[ad,dj,wp] at hc;obtain⟨h1,h2⟩:=hc;unfold IntKind.wrap;cases k<;>simp only[xe,xd,IntKind.bits,IntKind.signed] at h1 h2 ⊢<;>simp<;>omega
def ou:∀a b:List Nat,my a b=decide (a=b)
 | [],[]=>by simp[my]
 | [],b::y=>by simp[my]
 | a::x,[]=>by simp[my]
 | a::x,b::y=>by
  simp only[my,ou x y,List.cons.injEq];cases h:beq a b
  ·simp[dT h]
  ·simp[bD h]
structure kR where
 b:Nat
 d:Nat
 r:Nat
abbrev Sg:=Nat->Option kR
inductive V (σ:Sg):AV->Value->Prop
 | bool (b):V σ (.bool b) (.bool b)
 | int (k n):V σ (.int k n) (.int k n)
 | str {l:List Nat} {s:ByteArray} (h:s.data.toList.map (·.toNat)=l):V σ (.str l) (.string s)
 | Eo:V σ (.ptr none) (.pointer none)
 | ptr {id off:Nat} {p:kR} (h:σ id=some p):V σ (.ptr (some (id,off))) (.pointer (some ⟨p.b,p.d+off,none⟩))
 | eb {l e:Nat} (hl:l=0):V σ (.slice none l e (some 0)) (.slice none 0 0)
 | slice {id off len es:Nat} {cap:Option Nat} {a:Addr} {p:kR} {c:Nat} (h:σ id=some p) (hl:len<=c) (hr:off+c*es<=p.r) (hc:∀x,cap=some x->x=c)
  (ha:a=⟨p.b,p.d+off,none⟩\/c=0):V σ (.slice (some (id,off)) len es cap) (.slice (some a) len c)
 | Ei:V σ (.map none) (.map none)
 | map {id:Nat} {p:kR} (h:σ id=some p):V σ (.map (some id)) (.map (some p.b))
 | fn {f:Fn} {fs cs:List AV} {fs' cs':Array Value} (hf:∀l,f≠.yield l) (h1:fs.length=fs'.size) (h2:∀(i:Nat) (a:AV) (v:Value),fs[i]?=some a->fs'[i]?=some v->V σ a v)
  (h3:cs.length=cs'.size) (h4:∀(i:Nat) (a:AV) (v:Value),cs[i]?=some a->cs'[i]?=some v->V σ a v):V σ (.fn f fs cs) (.func f fs' cs')
 | yield {id:Nat} {p:kR} (h:σ id=some p):V σ (.fn (.yield id) [] []) (.func (.yield p.b) #[] #[])
 | dD:V σ .dD .nilFunc
 | iface {t:TypeId} {a:AV} {v:Value} (h:V σ a v):V σ (.iface t a) (.iface t v)
 | nT:V σ .nT .nilIface
 | any {v:Value} (h:∀vs,v≠.agg vs):V σ .any v
 | agg {cs:List AV} {vs:Array Value} (h1:cs.length=vs.size) (h2:∀(i:Nat) (a:AV) (v:Value),cs[i]?=some a->vs[i]?=some v->V σ a v):V σ (.agg cs) (.agg vs)
 | aO {cs:List AV} {vs:Array Value} (h1:cs.length=vs.size) (h2:∀(i:Nat) (a:AV) (v:Value),cs[i]?=some a->vs[i]?=some v->V σ a v):V σ (.aO cs) (.tuple vs)
def VL(σ:Sg)(cs:List AV)(vs:List Value):Prop:=cs.length=vs.length/\∀(i:Nat) (a:AV) (v:Value),cs[i]?=some a->vs[i]?=some v->V σ a v
def V.mono{σ σ':Sg}(hle:∀id p,σ id=some p->σ' id=some p){a:AV}{v:Value}(h:V σ a v):V σ' a v:=by
 induction h with
 | bool b=>exact .bool b
 | int k n=>exact .int k n
 | str h=>exact .str h
 | Eo=>exact .Eo
 | ptr h=>exact .ptr (hle _ _ h)
 | eb h=>exact .eb h
 | slice h hl hr hc ha=>exact .slice (hle _ _ h) hl hr hc ha
 | Ei=>exact .Ei
 | map h=>exact .map (hle _ _ h)
 | fn hf h1 h2 h3 h4 ih2 ih4=>exact .fn hf h1 (λi a v x y=>ih2 i a v x y) h3 (λi a v x y=>ih4 i a v x y)
 | yield h=>exact .yield (hle _ _ h)
 | dD=>exact .dD
 | iface h ih=>exact .iface ih
 | nT=>exact .nT
 | any h=>exact .any h
 | agg h1 h2 ih=>exact .agg h1 (λi a v x y=>ih i a v x y)
 | aO h1 h2 ih=>exact .aO h1 (λi a v x y=>ih i a v x y)
def VL.mono{σ σ':Sg}(hle:∀id p,σ id=some p->σ' id=some p){a:List AV}{v:List Value}(h:VL σ a v):VL σ' a v:=
 ⟨h.1,λi a v x y=>(h.2 i a v x y).mono hle⟩
def VL.nil{σ:Sg}:VL σ [] []:=⟨rfl,λi a v h _=>by simp at h⟩
def VL.cons{σ:Sg}{a:AV}{v:Value}{aS:List AV}{vs:List Value}(h:V σ a v)(hs:VL σ aS vs):VL σ (a::aS) (v::vs):=by
 refine⟨by simp[hs.1],?_⟩;intro i x y hx hy
 cases i with
 | zero=>simp at hx hy;subst hx;subst hy;exact h
 | succ i=>simp at hx hy;exact hs.2 i x y hx hy
def VL.of_cons{σ:Sg}{a:AV}{v:Value}{aS:List AV}{vs:List Value}(h:VL σ (a::aS) (v::vs)):V σ a v/\VL σ aS vs:=
 ⟨h.2 0 a v (by simp) (by simp),⟨by have:=h.1;simpa using this,λi x y hx hy=>h.2 (i+1) x y (by simpa using hx) (by simpa using hy)⟩⟩
def VL.bY{σ:Sg}{a:AV}{aS:List AV}{l:List Value}(h:VL σ (a::aS) l):∃v vs,l=v::vs/\V σ a v/\VL σ aS vs:=by
 cases l with
 | nil=>have:=h.1;simp at this
 | cons v vs=>exact⟨v,vs,rfl,h.of_cons.1,h.of_cons.2⟩
def VL.iX{σ:Sg}{l:List Value}(h:VL σ [] l):l=[]:=by
 have:=h.1;cases l with
 | nil=>rfl
 | cons v vs=>simp at this
def VL.get{σ:Sg}{aS:List AV}{vs:List Value}(h:VL σ aS vs){i:Nat}{a:AV}(ha:aS[i]?=some a):∃v,vs[i]?=some v/\V σ a v:=by
 have hi:i<aS.length:=by
  rcases be i aS.length with h | h
  ·exact h
  ·simp[ap h] at ha
 have hv:i<vs.length:=h.1▸hi;exact⟨vs[i],ax hv,h.2 i a _ ha (ax hv)⟩
def VL.append{σ:Sg}{aS bs:List AV}{vs ws:List Value}(h:VL σ aS vs)(k:VL σ bs ws):VL σ (aS++bs) (vs++ws):=by
 refine⟨by simp[h.1,k.1],?_⟩;intro i x y hx hy;rw[ba] at hx hy;have e:=h.1;by_cases hi:i<aS.length
 ·rw[t8 hi] at hx;rw[t8 (by omega)] at hy;exact h.2 i x y hx hy
 ·rw[ul hi] at hx;rw[ul (by omega),<-e] at hy;exact k.2 _ x y hx hy
def VL.drop{σ:Sg}{aS:List AV}{vs:List Value}(h:VL σ aS vs)(n:Nat):VL σ (aS.drop n) (vs.drop n):=
 ⟨by simp[h.1],λi x y hx hy=>h.2 (n+i) x y (by simpa [bv] using hx) (by simpa [bv] using hy)⟩
def VL.take{σ:Sg}{aS:List AV}{vs:List Value}(h:VL σ aS vs)(n:Nat):VL σ (aS.take n) (vs.take n):=by
 refine⟨by simp[h.1],?_⟩;intro i x y hx hy;rw[a9] at hx hy;by_cases hi:i<n
 ·rw[t8 hi] at hx hy;exact h.2 i x y hx hy
 ·rw[ul hi] at hx;simp at hx
def V.ie{σ:Sg}{cs:List AV}{v:Value}(h:V σ (.agg cs) v):∃vs,v=.agg vs/\VL σ cs vs.toList:=by
 cases h with
 | agg h1 h2=>exact⟨_,rfl,by simpa using h1,λi a v x y=>h2 i a v x (by simpa using y)⟩
def V.xM{σ:Sg}{cs:List AV}{v:Value}(h:V σ (.aO cs) v):∃vs,v=.tuple vs/\VL σ cs vs.toList:=by
 cases h with
 | aO h1 h2=>exact⟨_,rfl,by simpa using h1,λi a v x y=>h2 i a v x (by simpa using y)⟩
def V.Ej{σ:Sg}{cs:List AV}{vs:List Value}(h:VL σ cs vs):V σ (.agg cs) (.agg vs.toArray):=.agg (by simpa using h.1) (λi a v x y=>h.2 i a v x (by simpa using y))
def V.oz{σ:Sg}{cs:List AV}{vs:Array Value}(h:VL σ cs vs.toList):V σ (.agg cs) (.agg vs):=.agg (by simpa using h.1) (λi a v x y=>h.2 i a v x (by simpa using y))
def V.BY{σ:Sg}{cs:List AV}{vs:List Value}(h:VL σ cs vs):V σ (.aO cs) (.tuple vs.toArray):=.aO (by simpa using h.1) (λi a v x y=>h.2 i a v x (by simpa using y))
def V.dk{σ:Sg}{cs:List AV}{vs:Array Value}(h:VL σ cs vs.toList):V σ (.aO cs) (.tuple vs):=.aO (by simpa using h.1) (λi a v x y=>h.2 i a v x (by simpa using y))
def V.e7{σ:Sg}:V σ e7 undef:=.aO (by simp) (λi a v h _=>by simp at h)
def V.cells{σ:Sg}{a:AV}{v:Value}(h:V σ a v):VL σ a.cells v.cells.toList:=by
 cases h with
 | agg h1 h2=>exact⟨by simpa [AV.cells,Value.cells] using h1,λi a v x y=>h2 i a v x (by simpa [Value.cells] using y)⟩
 | any h=>
  cases v with
  | agg vs=>exact t7 rfl (h vs)
  | _=>exact .cons (.any h) .nil
 | _=>exact .cons (by constructor<;>assumption) .nil
def V.fz{σ:Sg}{a:AV}{v:Value}(h:V σ a v)(ho:fz a=true):v.oneCell'=true:=by
 cases h<;>simp_all [Ev.fz,Value.oneCell']
def VL.fz{σ:Sg}{aS:List AV}{vs:List Value}(h:VL σ aS vs)(ho:aS.all Ev.fz=true):∀v∈vs,v.oneCell'=true:=by
 intro v hv;obtain⟨i,hi⟩:=List.mem_iff_getElem?.1 hv
 have hlt:i<vs.length:=by
  rcases be i vs.length with h | h
  ·exact h
  ·simp[ap h] at hi
 have ha:aS[i]?=some (aS[i]'(by have:=h.1;omega)):=ax _;exact(h.2 i _ v ha hi).fz (all_eq_true.1 ho _ (List.getElem_mem _))
def mA{n:Nat}{σ:Sg}(ih:∀v a,fW n v=some a->V σ a v):∀(l:List Value) (aS:List AV),l.mapM (fW n)=some aS->VL σ aS l
 | [],aS,h=>by simp at h;subst h;exact .nil
 | v::l,aS,h=>by
  rw[cc] at h
  cases h1:fW n v with
  | none=>simp[h1] at h
  | some a=>
   cases h2:l.mapM (fW n) with
   | none=>simp[h1,h2] at h
   | some bs=>simp[h1,h2] at h;subst h;exact .cons (ih v a h1) (mA ih l bs h2)
def Bv{σ:Sg}:∀(n:Nat) (v:Value) (a:AV),fW n v=some a->V σ a v:=by
 intro n
 induction n with
 | zero=>intro v a h;simp[fW] at h
 | succ n ih=>
  intro v a h;unfold fW at h;split at h
  all_goals first
   | (simp only[Option.some.injEq] at h;subst h;first | exact .bool _ | exact .int _ _ | exact .str rfl | exact .Eo | exact .eb rfl | exact .Ei | exact .dD | exact .nT)
   | skip
  ·rename_i cs
   cases h1:cs.toList.mapM (fW n) with
   | none=>simp[h1] at h
   | some aS=>simp[h1] at h;subst h;exact .oz (mA ih _ _ h1)
  ·rename_i cs
   cases h1:cs.toList.mapM (fW n) with
   | none=>simp[h1] at h
   | some aS=>simp[h1] at h;subst h;exact .dk (mA ih _ _ h1)
  ·rename_i t v
   cases h1:fW n v with
   | none=>simp[h1] at h
   | some aS=>simp[h1] at h;subst h;exact .iface (ih _ _ h1)
  ·simp at h
def ER(σ:Sg)(e:AV×AV×Nat)(m:MapEntry):Prop:=V σ e.1 m.key/\V σ e.2.1 m.val/\e.2.2=m.born
def TR(σ:Sg)(t:Tr AV)(n:Nat)(tmps:Array Value):Prop:=tmps.size=n/\∀i,V σ ((t.get i).getD e7) (tmps.getD i undef)
def sq(s:ByteArray):List Nat:=s.data.toList.map (·.toNat)
def OR(σ:Sg)(o:AO)(p:kR)(b:Option Obj):Prop:=match o with
 | .cells cs _=>∃c e,b=some (.cells c e (0,0))/\p.d+p.r<=c.size/\cs.length<=p.r/\∀(i:Nat) (a:AV),cs[i]?=some a->∃v,c[p.d+i]?=some v/\V σ a v
 | .ro cs=>∃c e f,b=some (.cells c e f)/\p.d+p.r<=c.size/\cs.length<=p.r/\∀(i:Nat) (a:AV),cs[i]?=some a->∃v,c[p.d+i]?=some v/\V σ a v
 | .map es ck=>∃es':Array MapEntry,b=some (.map es' ck)/\es.length=es'.size/\∀(i:Nat) (e:AV×AV×Nat) (m:MapEntry),es[i]?=some e->es'[i]?=some m->ER σ e m
 | .Ar s pos=>∃s',b=some (.stringIter s' pos)/\sq s'=s/\p.d=0
 | .eg m since seen st=>∃m',b=some (.mapIter m' since seen.toArray st)/\p.d=0/\(match m with
  | none=>m'=none
  | some id=>∃q,σ id=some q/\m'=some q.b)
 | .loop st pend t n ps a bd d=>∃f tmps q,b=some (.loop { state:=st,pending:=pend,fn:=f,tmps,params:=ps,assign:=a,body:=bd,defers:=q.b })/\σ d=some q/\TR σ t n tmps
 | .ik tk=>b=some (.deferred (if tk then none else some []))
def TR.mono{σ σ':Sg}(hle:∀id p,σ id=some p->σ' id=some p){t:Tr AV}{n:Nat}{tmps:Array Value}(h:TR σ t n tmps):TR σ' t n tmps:=
 ⟨h.1,λi=>(h.2 i).mono hle⟩
def OR.mono{σ σ':Sg}(hle:∀id p,σ id=some p->σ' id=some p){o:AO}{p:kR}{b:Option Obj}(h:OR σ o p b):OR σ' o p b:=by
 cases o with
 | cells cs f=>obtain⟨c,e,h1,h2,h3,h4⟩:=h;exact⟨c,e,h1,h2,h3,λi a ha=>let ⟨v,hv,hV⟩:=h4 i a ha;⟨v,hv,hV.mono hle⟩⟩
 | ro cs=>obtain⟨c,e,f,h1,h2,h3,h4⟩:=h;exact⟨c,e,f,h1,h2,h3,λi a ha=>let ⟨v,hv,hV⟩:=h4 i a ha;⟨v,hv,hV.mono hle⟩⟩
 | map es ck=>obtain⟨es',h1,h2,h3⟩:=h;exact⟨es',h1,h2,λi e m he hm=>let ⟨a,b,c⟩:=h3 i e m he hm;⟨a.mono hle,b.mono hle,c⟩⟩
 | Ar s pos=>exact h
 | eg m since seen st=>
  obtain⟨m',h1,h0,h2⟩:=h;refine⟨m',h1,h0,?_⟩
  cases m with
  | none=>exact h2
  | some id=>obtain⟨q,hq,hm⟩:=h2;exact⟨q,hle _ _ hq,hm⟩
 | loop st pend t n ps a bd d=>obtain⟨f,tmps,q,h1,h2,h3⟩:=h;exact⟨f,tmps,q,h1,hle _ _ h2,h3.mono hle⟩
 | ik tk=>exact h
def OR.some{σ:Sg}{o:AO}{p:kR}{b:Option Obj}(h:OR σ o p b):b≠none:=by
 intro e;subst e;cases o<;>simp[OR] at h
def Bt(o o':AO):Prop:=(∃cs cs' f,o=.cells cs f/\o'=.cells cs' f)\/(∃cs cs',o=.ro cs/\o'=.ro cs')
def Bt.left{o:AO}{cs:List AV}{f:Nat}(h:Bt o (.cells cs f)):∃cs',o=.cells cs' f:=by
 rcases h with⟨a,b,c,e1,e2⟩ | ⟨a,b,e1,e2⟩
 ·cases e2;exact⟨_,e1⟩
 ·cases e2
structure HR (σ:Sg) (h:H) (w:World):Prop where
 obj:∀id o,h.aD.get id=some o->∃p,σ id=some p/\OR σ o p w.heap[p.b]?
 fresh:∀id,h.next<=id->σ id=none
 sep:∀i j o o' p q,i≠j->h.aD.get i=some o->h.aD.get j=some o'->σ i=some p->σ j=some q->p.b=q.b->Bt o o'
 aX:∀i cs f,h.aD.get i=some (.cells cs f)->f<h.next/\∃x y,h.bW.get f=some (x,y)/\(i=x\/i=y)
 qo:h.low<=h.next
def rH{w:World}{b:Nat}(h:w.heap[b]?≠none):b<w.heap.size:=by
 rcases be b w.heap.size with h' | h'
 ·exact h'
 ·simp[h'] at h
def HR.lt{σ:Sg}{h:H}{w:World}(hr:HR σ h w){id:Nat}{o:AO}{p:kR}(ho:h.aD.get id=some o)(hp:σ id=some p):p.b<w.heap.size:=by
 obtain⟨q,hq,hor⟩:=hr.obj id o ho;rw[hp] at hq;cases hq;exact rH hor.some
def HR.FT{σ:Sg}{h:H}{w:World}(hr:HR σ h w){id:Nat}{o:AO}(ho:h.aD.get id=some o):id<h.next:=by
 obtain⟨q,hq,_⟩:=hr.obj id o ho
 rcases be id h.next with h' | h'
 ·exact h'
 ·rw[hr.fresh id h'] at hq;cases hq
def CM(o:AO):Prop:=∀cs,o≠.ro cs
structure Ext (σ σ':Sg) (h h':H) (w w':World):Prop where
 le:∀id p,σ id=some p->σ' id=some p
 next:h.next<=h'.next
 size:w.heap.size<=w'.heap.size
 os:w'.os=w.os
 tape:w'.tape=w.tape
 output:w'.output=w.output
 EB:∀id o p,h'.aD.get id=some o->σ' id=some p->w.heap.size<=p.b\/∃i o' q,h.aD.get i=some o'/\σ i=some q/\q.b=p.b/\(CM o->CM o')
 frame:∀b,b<w.heap.size->(∀id o p,h.aD.get id=some o->CM o->σ id=some p->p.b≠b)->w'.heap[b]?=w.heap[b]?
 low:h'.low<=h.low
 same:∀id,id<h'.low->id<h.next->h'.aD.get id=h.aD.get id
 gm:∀id,id<h.next->σ id=none->σ' id=none
 bW:∀id cs f,h'.aD.get id=some (.cells cs f)->h.next<=f\/∃i cs',h.aD.get i=some (.cells cs' f)
def Ext.refl(σ:Sg)(h:H)(w:World):Ext σ σ h h w w:=
 ⟨λ_ _ h=>h,al _,al _,rfl,rfl,rfl,λid o p ho hp=>.inr ⟨id,o,p,ho,hp,rfl,λh=>h⟩,λ_ _ _=>rfl,al _,λ_ _ _=>rfl,λ_ _ h=>h,λid cs _ ho=>.inr ⟨id,cs,ho⟩⟩
def Ext.trans{σ σ' σ'':Sg}{h h' h'':H}{w w' w'':World}(a:Ext σ σ' h h' w w')(b:Ext σ' σ'' h' h'' w' w''):Ext σ σ'' h h'' w w'' where
 le:=λid p hp=>b.le _ _ (a.le _ _ hp)
 next:=bc a.next b.next
 size:=bc a.size b.size
 os:=b.os.trans a.os
 tape:=b.tape.trans a.tape
 output:=b.output.trans a.output
 EB:=by
  intro id o p ho hp
  rcases b.EB id o p ho hp with h1 | ⟨i,o',q,h1,h2,h3,g3⟩
  ·exact .inl (bc a.size h1)
  ·rcases a.EB i o' q h1 h2 with h4 | ⟨j,o'',r,h4,h5,h6,g6⟩
   ·exact .inl (by omega)
   ·exact .inr ⟨j,o'',r,h4,h5,by omega,λh=>g6 (g3 h)⟩
 frame:=by
  intro bk hb hn;rw[b.frame bk (a0 hb a.size),a.frame bk hb hn];intro id o p ho hw hp e
  rcases a.EB id o p ho hp with h1 | ⟨i,o',q,h1,h2,h3,g3⟩
  ·omega
  ·exact hn i o' q h1 (g3 hw) h2 (by omega)
 low:=bc b.low a.low
 same:=by
  intro id h1 h2;rw[b.same id h1 (a0 h2 a.next),a.same id (a0 h1 b.low) h2]
 gm:=λid h1 h2=>b.gm id (a0 h1 a.next) (a.gm id h1 h2)
 bW:=by
  intro id cs f ho
  rcases b.bW id cs f ho with h1 | ⟨i,cs',h1⟩
  ·exact .inl (bc a.next h1)
  ·exact a.bW i cs' f h1
def HR.congr{σ:Sg}{h:H}{w w':World}(hr:HR σ h w)(e:w'.heap=w.heap):HR σ h w':=
 ⟨λid o ho=>by rw[e];exact hr.obj id o ho,hr.fresh,hr.sep,hr.aX,hr.qo⟩
def Ext.of_eq{σ:Sg}{h:H}{w w':World}(e:w'.heap=w.heap)(e1:w'.os=w.os)(e2:w'.tape=w.tape)(e3:w'.output=w.output):Ext σ σ h h w w':=
 ⟨λ_ _ h=>h,al _,by rw[e];exact al _,e1,e2,e3,λid o p ho hp=>.inr ⟨id,o,p,ho,hp,rfl,λh=>h⟩,λ_ _ _=>by rw[e],al _,λ_ _ _=>rfl,λ_ _ h=>h,λid cs _ ho=>.inr ⟨id,cs,ho⟩⟩
def dJ(b o n:Nat):(⟨b,o,none⟩:Addr).add n=⟨b,o+n,none⟩:=by
 unfold Addr.add;split
 ·rename_i h;simp[h]
 ·rfl
def cell_of{w:World}{b o:Nat}{c:Array Value}{e:TypeId}{f:Nat×Nat}(h:w.heap[b]?=some (.cells c e f)):w.cell? ⟨b,o,none⟩=c[o]?:=by
 simp[World.cell?,h]
def rq{w:World}{b o:Nat}{c:Array Value}{e:TypeId}(h:w.heap[b]?=some (.cells c e (0,0))):w.frozen? ⟨b,o,none⟩=false:=by
 simp[World.frozen?,h]
def HR.cells{σ:Sg}{h:H}{w:World}(hr:HR σ h w){id:Nat}{cs:List AV}{f:Nat}(ho:h.aD.get id=some (.cells cs f)):
 ∃p c e,σ id=some p/\w.heap[p.b]?=some (.cells c e (0,0))/\p.d+p.r<=c.size/\cs.length<=p.r/\∀(i:Nat) (a:AV),cs[i]?=some a->∃v,c[p.d+i]?=some v/\V σ a v:=by
 obtain⟨p,hp,c,e,h1,h2,h3,h4⟩:=hr.obj id _ ho;exact⟨p,c,e,hp,h1,h2,h3,h4⟩
def DC(o:AO)(cs:List AV):Prop:=(∃f,o=.cells cs f)\/o=.ro cs
def HR.row{σ:Sg}{h:H}{w:World}(hr:HR σ h w){id:Nat}{o:AO}{cs:List AV}(ho:h.aD.get id=some o)(hi:DC o cs):
 ∃p c e f,σ id=some p/\w.heap[p.b]?=some (.cells c e f)/\p.d+p.r<=c.size/\cs.length<=p.r/\∀(i:Nat) (a:AV),cs[i]?=some a->∃v,c[p.d+i]?=some v/\V σ a v:=by
 obtain⟨p,hp,hor⟩:=hr.obj id _ ho
 rcases hi with⟨f,rfl⟩ | rfl
 ·obtain⟨c,e,h1,h2,h3,h4⟩:=hor;exact⟨p,c,e,_,hp,h1,h2,h3,h4⟩
 ·obtain⟨c,e,f,h1,h2,h3,h4⟩:=hor;exact⟨p,c,e,f,hp,h1,h2,h3,h4⟩
def H.BD{h:H}{id off n:Nat}{cs:List AV}(hc:h.chunk id off n=some cs):
 ∃o bs,h.aD.get id=some o/\DC o bs/\off+n<=bs.length/\cs=(bs.drop off).take n:=by
 unfold H.chunk at hc;split at hc
 ·rename_i bs f ho;obtain⟨h1,h2⟩:=aw hc;simp only[Option.some.injEq] at h2;exact⟨_,bs,ho,.inl ⟨f,rfl⟩,eu h1,h2.symm⟩
 ·rename_i bs ho;obtain⟨h1,h2⟩:=aw hc;simp only[Option.some.injEq] at h2;exact⟨_,bs,ho,.inr rfl,eu h1,h2.symm⟩
 ·simp at hc
def HR.chunk{σ:Sg}{h:H}{w:World}(hr:HR σ h w){id off n:Nat}{cs:List AV}{p:kR}(hc:h.chunk id off n=some cs)(hp:σ id=some p):
 ∃vs,VL σ cs vs/\cs.length=n/\∀(j:Nat) (v:Value),vs[j]?=some v->w.cell? ⟨p.b,p.d+off+j,none⟩=some v:=by
 obtain⟨o,bs,ho,hi,hle,rfl⟩:=H.BD hc;obtain⟨q,c,e,f,hq,h1,h2,h3,h4⟩:=hr.row ho hi;rw[hp] at hq;cases hq
 have hlen:((bs.drop off).take n).length=n:=by simp;omega
 have hsz:∀j,j<n->p.d+(off+j)<c.size:=λj hj=>by omega
 refine⟨(List.range n).map λj=>(c[p.d+(off+j)]?).getD undef,⟨by simp;omega,?_⟩,hlen,?_⟩
 ·intro i a v ha hv
  have hi:i<n:=by
   rcases be i n with h | h
   ·exact h
   ·rw[ap (by omega)] at ha;simp at ha
  rw[a9,t8 hi,bv] at ha;obtain⟨u,hu,hV⟩:=h4 _ _ ha;rw[b5,b8 hi] at hv;simp only[af,Option.some.injEq] at hv;rw[<-hv,hu];exact hV
 ·intro j v hv
  have hj:j<n:=by
   rcases be j n with h | h
   ·exact h
   ·rw[ap (by simp;omega)] at hv;simp at hv
  rw[b5,b8 hj] at hv;simp only[af,Option.some.injEq] at hv;rw[cell_of h1,show p.d+off+j=p.d+(off+j) by omega,bh (hsz j hj)];rw[bh (hsz j hj)] at hv;simpa using hv
def ig{P:Program}{w:World}{b o:Nat}{vs:List Value}(h:∀(j:Nat) (v:Value),vs[j]?=some v->w.cell? ⟨b,o+j,none⟩=some v):
 (loadCells ⟨b,o,none⟩ vs.length).run P w=.ok vs.toArray w:=
 run_loadCells_list w _ vs λj v hv=>by rw[dJ];exact h j v hv
def bI{P:Program}{w:World}{t:TypeId}{i:TypeInfo}(h:P.info? t=some i):(typeInfo t).run P w=.ok i w:=by
 simp[typeInfo,h]
def aA{P:Program}{w:World}{t:TypeId}{d:TypeDesc}(h:P.underlying t=some d):(Go.underlying t).run P w=.ok d w:=by
 simp[Go.underlying,h]
def aT{P:Program}{w:World}{t n:Nat}(h:bn P t=some n):(sizeOf t).run P w=.ok n w:=by
 unfold bn at h
 cases hi:P.info? t with
 | none=>simp[hi] at h
 | some i=>simp[hi] at h;subst h;simp[sizeOf,bI hi]
def gD{P:Program}{w:World}{t:Nat}{b:Bool}(h:jz P t=some b):(isAgg t).run P w=.ok b w:=by
 unfold jz at h
 cases hi:P.underlying t with
 | none=>simp[hi] at h
 | some d=>
  simp only[hi,af,Option.some.injEq] at h;subst h;simp only[isAgg,Sem.run_bind,aA hi,Result.andThen_ok];cases d<;>simp
def dV{P:Program}{w:World}{σ:Sg}{t:Nat}{z:AV}(h:bT P t=some z):∃v,(zeroValue t).run P w=.ok v w/\V σ z v/\∃i,P.info? t=some i/\i.zero=some v:=by
 unfold bT at h
 cases hi:P.info? t with
 | none=>simp[hi] at h
 | some i=>
  simp only[hi,ac] at h
  cases hz:i.zero with
  | none=>simp[hz] at h
  | some v=>
   simp only[hz,ac] at h;exact⟨v,by simp[zeroValue,bI hi,hz],Bv _ _ _ h,i,rfl,hz⟩
def HR.vc{P:Program}{σ:Sg}{h:H}{w:World}(hr:HR σ h w){t id off:Nat}{a:AV}{p:kR}(hl:h.load P t id off=some a)(hp:σ id=some p):
 ∃v,(loadVar t ⟨p.b,p.d+off,none⟩).run P w=.ok v w/\V σ a v:=by
 unfold H.load at hl;split at hl
 ·rename_i hag
  cases hn:bn P t with
  | none=>simp[hn] at hl
  | some n=>
   simp only[hn,ac] at hl
   cases hc:h.chunk id off n with
   | none=>simp[hc] at hl
   | some cs=>
    simp only[hc,af,Option.some.injEq] at hl;subst hl;obtain⟨vs,hvl,hlen,hcell⟩:=hr.chunk hc hp;refine⟨.agg vs.toArray,?_,.Ej hvl⟩
    have hl:vs.length=n:=by rw[<-hvl.1];exact hlen
    simp only[loadVar,Sem.run_bind,gD hag,Result.andThen_ok,if_true,aT hn];rw[<-hl,ig hcell];simp
 ·rename_i hag;split at hl
  ·rename_i cs f ho;obtain⟨q,c,e,hq,h1,h2,h3,h4⟩:=hr.cells ho;rw[hp] at hq;cases hq;obtain⟨v,hv,hV⟩:=h4 _ _ hl;refine⟨v,?_,hV⟩
   have hcell:w.cell? ⟨p.b,p.d+off,none⟩=some v:=by rw[cell_of h1];exact hv
   simp[loadVar,gD hag,hcell]
  ·rename_i cs ho;obtain⟨q,c,e,f,hq,h1,h2,h3,h4⟩:=hr.row ho (.inr rfl);rw[hp] at hq;cases hq;obtain⟨v,hv,hV⟩:=h4 _ _ hl;refine⟨v,?_,hV⟩
   have hcell:w.cell? ⟨p.b,p.d+off,none⟩=some v:=by rw[cell_of h1];exact hv
   simp[loadVar,gD hag,hcell]
  ·simp at hl
 ·simp at hl
def eG{P:Program}{σ:Sg}{w:World}{t off:Nat}{cs:List AV}{vs:Array Value}{a:AV}(hvs:VL σ cs vs.toList)(hl:partA P t cs off=some a):
 ∃v,(part t vs off).run P w=.ok v w/\V σ a v:=by
 unfold partA at hl;split at hl
 ·rename_i hag
  cases hn:bn P t with
  | none=>simp[hn] at hl
  | some n=>
   simp only[hn,ac] at hl;obtain⟨hle,he⟩:=aw hl;simp only[Option.some.injEq] at he;subst he;refine⟨.agg (vs.extract off (off+n)),?_,.oz ?_⟩
   ·simp[part,gD hag,aT hn]
   ·have:(vs.extract off (off+n)).toList=(vs.toList.drop off).take n:=by simp
    rw[this];exact(hvs.drop off).take n
 ·rename_i hag;obtain⟨v,hv,hV⟩:=hvs.get hl;refine⟨v,?_,hV⟩
  have hv':vs[off]?=some v:=by simpa using hv
  simp[part,gD hag,hv']
 ·simp at hl
def cj(a b:Nat):dF a b<=a/\dF a b<=b:=by
 unfold dF;cases h:ble a b
 ·have:=oq h;simp only[ah];omega
 ·have:=eu h;simp only[ab];omega
def HR.update{σ:Sg}{h h':H}{w w':World}(hr:HR σ h w){id:Nat}{p:kR}{o o':AO}(ho:h.aD.get id=some o)(hp:σ id=some p)
 (hg:∀j x,h'.aD.get j=some x->(j=id/\x=o')\/(j≠id/\h.aD.get j=some x/\∀q,σ j=some q->q.b≠p.b))
 (hnext:h'.next=h.next) (hfam:∀i cs f,h'.aD.get i=some (.cells cs f)->f<h.next/\∃x y,h'.bW.get f=some (x,y)/\(i=x\/i=y))
 (hor:OR σ o' p w'.heap[p.b]?) (hw:∀b,b≠p.b->w'.heap[b]?=w.heap[b]?) (hs:w'.heap.size=w.heap.size) (e1:w'.os=w.os) (e2:w'.tape=w.tape) (e3:w'.output=w.output)
 (hlow:h'.low<=h.low) (hsame:∀j,j<h'.low->j<h.next->h'.aD.get j=h.aD.get j)
 (hof:∀cs f,o'=.cells cs f->∃cs',o=.cells cs' f:=by first | (intro cs f e;cases e;done) | (intro cs f e;cases e;exact⟨_,rfl⟩))
 (hown:CM o:=by (intro cs e;cases e)):HR σ h' w'/\Ext σ σ h h' w w':=by
 refine⟨⟨?_,?_,?_,?_,?_⟩,⟨λ_ _ h=>h,by omega,by omega,e1,e2,e3,?_,?_,hlow,hsame,λ_ _ h=>h,?_⟩⟩
 ·intro j x hx
  rcases hg j x hx with⟨rfl,rfl⟩ | ⟨_,h2,h3⟩
  ·exact⟨p,hp,hor⟩
  ·obtain⟨q,hq,hq2⟩:=hr.obj j x h2;exact⟨q,hq,by rw[hw _ (h3 q hq)];exact hq2⟩
 ·intro j hj;exact hr.fresh j (by omega)
 ·intro i j x y q1 q2 hij hx hy h1 h2 hb
  rcases hg i x hx with⟨rfl,rfl⟩ | ⟨_,a2,a3⟩
  ·rcases hg j y hy with⟨rfl,rfl⟩ | ⟨_,b2,b3⟩
   ·exact t7 rfl hij
   ·rw[hp] at h1;cases h1;exact t7 hb.symm (b3 _ h2)
  ·rcases hg j y hy with⟨rfl,rfl⟩ | ⟨_,b2,b3⟩
   ·rw[hp] at h2;cases h2;exact t7 hb (a3 _ h1)
   ·exact hr.sep i j x y q1 q2 hij a2 b2 h1 h2 hb
 ·intro i cs f hi;rw[hnext];exact hfam i cs f hi
 ·have:=hr.qo;omega
 ·intro j x q hx hq
  rcases hg j x hx with⟨rfl,rfl⟩ | ⟨_,h2,_⟩
  ·exact .inr ⟨j,o,q,ho,hq,rfl,λ_=>hown⟩
  ·exact .inr ⟨j,x,q,h2,hq,rfl,λh=>h⟩
 ·intro b _ hn;exact hw b λe=>hn id o p ho hown hp e.symm
 ·intro j cs f hj
  rcases hg j _ hj with⟨rfl,e⟩ | ⟨_,h2,_⟩
  ·obtain⟨cs',e'⟩:=hof cs f e.symm;exact .inr ⟨j,cs',e'▸ho⟩
  ·exact .inr ⟨j,cs,h2⟩
def Ax{h:H}{id aX x y:Nat}(hf:h.bW.get aX=some (x,y))(j:Nat):
 (h.alone id aX).aD.get j=if (j=x\/j=y)/\j≠id/\(id=x\/id=y) then none else if (j=x\/j=y)/\j≠id then (h.alone id aX).aD.get j else h.aD.get j:=by
 unfold H.alone;rw[hf];simp only;cases hx:beq x id<;>cases hy:beq y id<;>simp only[Bool.and_true,Bool.and_false,ab,ah]
 ·have:=dT hx;have:=dT hy;rw[bU,bU];by_cases h1:j=y<;>by_cases h2:j=x<;>simp[h1,h2]<;>omega
 ·have:=dT hx;have:=bD hy;rw[bU];by_cases h1:j=x
  ·subst h1;simp;omega
  ·rw[ul h1];by_cases h2:j=y<;>simp[h1,h2]<;>omega
 ·have:=bD hx;have:=dT hy;rw[bU];by_cases h1:j=y
  ·subst h1;simp;omega
  ·rw[ul h1];by_cases h2:j=x<;>simp[h1,h2]<;>omega
 ·have:=bD hx;have:=bD hy;subst x;subst y;by_cases h1:j=id<;>simp[h1]
def gQ{σ:Sg}{h:H}{w:World}(hr:HR σ h w){id aX:Nat}{cs:List AV}(ho:h.aD.get id=some (.cells cs aX)):
 (h.alone id aX).aD.get id=some (.cells cs aX)/\
 (∀j o,(h.alone id aX).aD.get j=some o->h.aD.get j=some o)/\
 (∀j cs',(h.alone id aX).aD.get j=some (.cells cs' aX)->j=id)/\
 (h.alone id aX).next=h.next/\
 (∃x y,(h.alone id aX).bW.get aX=some (x,y)/\(id=x\/id=y))/\
 (∀f,f≠aX->(h.alone id aX).bW.get f=h.bW.get f)/\
 (h.alone id aX).low<=h.low/\
 (∀j,j<(h.alone id aX).low->(h.alone id aX).aD.get j=h.aD.get j):=by
 obtain⟨_,x,y,hf,hxy⟩:=hr.aX id cs aX ho
 have hget:∀j,(h.alone id aX).aD.get j=if (j=x\/j=y)/\j≠id then none else h.aD.get j:=by
  intro j;rw[Ax hf j];by_cases hc:(j=x\/j=y)/\j≠id
  ·rw[t8 ⟨hc.1,hc.2,hxy⟩,t8 hc]
  ·rw[ul (λh=>hc ⟨h.1,h.2.1⟩),ul hc,ul hc]
 refine⟨by rw[hget,ul (by simp),ho],?_,?_,?_,?_,?_,?_,?_⟩
 ·intro j o hj;rw[hget] at hj;split at hj
  ·cases hj
  ·exact hj
 ·intro j cs' hj;rw[hget] at hj;split at hj
  ·cases hj
  ·rename_i hn;obtain⟨_,x',y',hf',hj'⟩:=hr.aX j cs' aX hj;rw[hf] at hf';cases hf';apply Classical.byContradiction;intro hne;exact hn ⟨hj',hne⟩
 ·unfold H.alone;rw[hf];simp only;cases (beq x id&&beq y id)<;>rfl
 ·unfold H.alone;rw[hf];simp only;cases hb:(beq x id&&beq y id)
  ·exact⟨id,id,by rw[ah];exact bC _ _ _,.inl rfl⟩
  ·exact⟨x,y,hf,hxy⟩
 ·intro f hne;unfold H.alone;rw[hf];simp only;cases (beq x id&&beq y id)
  ·rw[ah];exact aJ _ _ hne
  ·rfl
 ·unfold H.alone;rw[hf];simp only;cases (beq x id&&beq y id)
  ·rw[ah];exact(cj _ _).1
  ·exact al _
 ·intro j hj;rw[hget];split
  ·rename_i hc
   have hlt:j<dF x y:=by
    unfold H.alone at hj;rw[hf] at hj;simp only at hj;cases hb:(beq x id&&beq y id)
    ·rw[hb,ah] at hj;exact a0 hj (cj _ _).2
    ·simp only[ad] at hb;have:=bD hb.1;have:=bD hb.2;omega
   have:=cj x y;omega
  ·rfl
def World.qw{w:World}{b o:Nat}{c:Array Value}{e:TypeId}{f:Nat×Nat}(h:w.heap[b]?=some (.cells c e f))(v:Value):
 (w.setCell ⟨b,o,none⟩ v).heap[b]?=some (.cells (c.setIfInBounds o v) e f):=by
 simp[World.setCell,b7,h]
def World.pK{w:World}{b k o:Nat}(v:Value)(hk:k≠b):(w.setCell ⟨b,o,none⟩ v).heap[k]?=w.heap[k]?:=by
 simp only[World.setCell,b7];rw[ul (λh=>hk h.symm)]
def gE{P:Program}{b o:Nat}{e:TypeId}:∀(vs:List Value) (i:Nat) (w:World) (c:Array Value),w.heap[b]?=some (.cells c e (0,0))->o+i+vs.length<=c.size->(∀v∈vs,v.oneCell'=true)->
 ∃w' c',(storeCells ⟨b,o,none⟩ vs i).run P w=.ok () w'/\w'.heap[b]?=some (.cells c' e (0,0))/\c'.size=c.size/\
  (∀j:Nat,c'[j]?=if o+i<=j/\j<o+i+vs.length then vs[j-(o+i)]? else c[j]?)/\(∀k,k≠b->w'.heap[k]?=w.heap[k]?)/\
  w'.heap.size=w.heap.size/\w'.os=w.os/\w'.tape=w.tape/\w'.output=w.output
 | [],i,w,c,h,_,_=>⟨w,c,by simp[storeCells],h,rfl,λj=>by rw[ul (by simp only[List.length_nil];omega)],λ_ _=>rfl,rfl,rfl,rfl,rfl⟩
 | v::vs,i,w,c,h,hlen,hone=>by
  simp only[List.length_cons] at hlen
  have hcell:w.cell? ⟨b,o+i,none⟩=some (c[o+i]'(by omega)):=by rw[cell_of h];exact Array.getElem?_eq_getElem _
  have h1:(w.setCell ⟨b,o+i,none⟩ v).heap[b]?=some (.cells (c.setIfInBounds (o+i) v) e (0,0)):=World.qw h v;obtain⟨w',c',hrun,hw',hsz,hget,hoth,s1,s2,s3,s4⟩:=gE (P:=P) (o:=o) vs (i+1) (w.setCell ⟨b,o+i,none⟩ v) (c.setIfInBounds (o+i) v) h1 (by simp;omega) (λu hu=>hone u (by simp[hu]));refine⟨w',c',?_,hw',by simpa using hsz,?_,?_,?_,?_,?_,?_⟩
  ·simp only[storeCells,Sem.run_bind,dJ];rw[run_store P w _ v .plain (hone v (by simp)),hcell];simp only[rq h,Bool.false_eq_true,if_false,Result.andThen_ok];exact hrun
  ·intro j;rw[hget];by_cases hj:o+(i+1)<=j/\j<o+(i+1)+vs.length
   ·rw[t8 hj,t8 (by simp;omega)];rw[show j-(o+i)=(j-(o+(i+1)))+1 by omega,List.getElem?_cons_succ]
   ·rw[ul hj,Array.getElem?_setIfInBounds];by_cases hj2:o+i=j
    ·subst hj2;rw[t8 rfl,t8 (by omega),t8 (by simp)];simp
    ·rw[ul hj2,ul (by simp;omega)]
  ·intro k hk;rw[hoth k hk,World.pK _ hk]
  ·rw[s1];simp
  ·rw[s2];rfl
  ·rw[s3];rfl
  ·rw[s4];rfl
def ga{α:Type}(cs vs:List α)(off:Nat)(h:off+vs.length<=cs.length)(j:Nat):
 (cs.take off++(vs++cs.drop (off+vs.length)))[j]?=if off<=j/\j<off+vs.length then vs[j-off]? else cs[j]?:=by
 have h1:(cs.take off).length=off:=by simp;omega
 rw[ba,h1];by_cases ha:j<off
 ·rw[t8 ha,ul (by omega),a9,t8 ha]
 ·rw[ul ha,ba];by_cases hb:j-off<vs.length
  ·rw[t8 hb,t8 (by omega)]
  ·rw[ul hb,ul (by omega),bv]
   congr 1;omega
def HR.jY{P:Program}{σ:Sg}{h h':H}{w:World}(hr:HR σ h w){id off:Nat}{aS:List AV}{vs:List Value}{p:kR}(hs:h.store id off aS=some h')(hp:σ id=some p)(hv:VL σ aS vs):
 ∃w',(storeCells ⟨p.b,p.d+off,none⟩ vs).run P w=.ok () w'/\HR σ h' w'/\Ext σ σ h h' w w':=by
 unfold H.store at hs;split at hs
 ·rename_i cs aX ho;obtain⟨hc,he⟩:=aw hs;simp only[ad] at hc;obtain⟨hle,hone⟩:=hc;have hle:=eu hle;simp only[Option.some.injEq] at he;obtain⟨q,c,e,hq,h1,h2,h3,h4⟩:=hr.cells ho;rw[hp] at hq;cases hq;have hl:=hv.1;obtain⟨w',c',hrun,hw',hsz,hget,hoth,s1,s2,s3,s4⟩:=gE (P:=P) (o:=p.d+off) vs 0 w c h1 (by omega) (hv.fz hone);obtain⟨a1,a2,a3,a4,a5,a6,a7,a8⟩:=gQ hr ho;refine⟨w',hrun,?_⟩;subst he;refine hr.update (o':=.cells (cs.take off++(aS++cs.drop (off+aS.length))) aX) ho hp ?_ a4 ?_ ?_ hoth s1 s2 s3 s4 (bc (cj _ _).1 a7) ?_
  ·intro j x hx;simp only[bU] at hx;split at hx
   ·rename_i e;cases hx;exact .inl ⟨e,rfl⟩
   ·rename_i hne;have hx':=a2 j x hx;refine .inr ⟨hne,hx',?_⟩;intro q hq hb;obtain⟨cs1,e1⟩:=(hr.sep j id x _ q p hne hx' ho hq hp hb).left;subst e1;exact hne (a3 j cs1 hx)
  ·intro i cs' f hi;simp only[bU] at hi;split at hi
   ·rename_i e;cases hi;subst e;exact⟨(hr.aX i _ _ ho).1,a5⟩
   ·rename_i hne;have hi':=a2 _ _ hi;obtain⟨b1,x,y,b2,b3⟩:=hr.aX i _ _ hi';refine⟨b1,x,y,?_,b3⟩;rw[a6 f (λe=>hne (a3 i cs' (e▸hi)))];exact b2
  ·refine⟨c',e,hw',by rw[hsz];exact h2,by simp;omega,?_⟩;intro i a ha;rw[ga _ _ _ hle] at ha;rw[hget];by_cases hi:off<=i/\i<off+aS.length
   ·rw[t8 hi] at ha;rw[t8 (by omega)];obtain⟨v,hv1,hv2⟩:=hv.get ha;exact⟨v,by rw[show p.d+i-(p.d+off+0)=i-off by omega];exact hv1,hv2⟩
   ·rw[ul hi] at ha;rw[ul (by omega)];exact h4 i a ha
  ·intro j hj hjn;simp only[bU];have hm:=cj (h.alone id aX).low id;rw[ul (by simp only at hj;omega)];exact a8 j (by simp only at hj;omega)
 ·simp at hs
def HR.sX{P:Program}{σ:Sg}{h h':H}{w:World}(hr:HR σ h w){t id off:Nat}{a:AV}{v:Value}{p:kR}(hs:h.storeVar P t id off a=some h')(hp:σ id=some p)(hv:V σ a v):
 ∃w',(storeVar t ⟨p.b,p.d+off,none⟩ v).run P w=.ok () w'/\HR σ h' w'/\Ext σ σ h h' w w':=by
 unfold H.storeVar at hs
 cases hn:bn P t with
 | none=>simp[hn] at hs
 | some n=>
  simp only[hn,ac] at hs;obtain⟨hc,he⟩:=aw hs;have hc:=bD hc;obtain⟨w',hrun,h1,h2⟩:=hr.jY (P:=P) he hp hv.cells;refine⟨w',?_,h1,h2⟩
  have hsz:v.cells.size=n:=by have:=hv.cells.1;simp at this;omega
  simp only[storeVar,Sem.run_bind,aT hn,Result.andThen_ok,hsz,ne_eq,not_true_eq_false,if_false];simpa using hrun
def up(σ:Sg)(id:Nat)(p:kR):Sg:=λj=>if j=id then some p else σ j
def gM{σ:Sg}{id:Nat}{p:kR}(h:σ id=none):∀j q,σ j=some q->up σ id p j=some q:=by
 intro j q hq;unfold up;split
 ·rename_i e;subst e;rw[h] at hq;cases hq
 ·exact hq
def cC(σ:Sg)(id:Nat)(p:kR):up σ id p id=some p:=by simp[up]
def jR(h:H)(id:Nat)(o:AO)(j:Nat):(h.lay id o).aD.get j=if j=id then some o else h.aD.get j:=by
 unfold H.lay;split<;>exact bU _ _ _ _
def jB(h:H)(id:Nat)(o:AO):(h.lay id o).next=h.next:=by unfold H.lay;split<;>rfl
def sH(h:H)(id:Nat)(o:AO):(h.lay id o).low=h.low:=by unfold H.lay;split<;>rfl
def HR.lay{σ:Sg}{h:H}{w w':World}(hr:HR σ h w){id r:Nat}{o:AO}{ob:Obj}(hid:σ id=none)(hlt:id<h.next)(hlow:h.low<=id)
 (hf:∀j cs,h.aD.get j≠some (.cells cs id)) (hof:∀cs f,o=.cells cs f->f=id)
 (hor:OR (up σ id ⟨w.heap.size,0,r⟩) o ⟨w.heap.size,0,r⟩ (some ob)) (hw:w'.heap=w.heap.push ob) (e1:w'.os=w.os) (e2:w'.tape=w.tape) (e3:w'.output=w.output):
 HR (up σ id ⟨w.heap.size,0,r⟩) (h.lay id o) w'/\Ext σ (up σ id ⟨w.heap.size,0,r⟩) { h with next:=id } (h.lay id o) w w':=by
 have hle:=gM (p:=⟨w.heap.size,0,r⟩) hid
 have hnone:h.aD.get id=none:=by
  cases hg:h.aD.get id with
  | none=>rfl
  | some x=>obtain⟨p,hp,_⟩:=hr.obj id x hg;rw[hid] at hp;cases hp
 have hold:∀b,b<w.heap.size->w'.heap[b]?=w.heap[b]?:=by
  intro b hb;rw[hw,cb,ul (by omega)]
 have hother:∀j x,h.aD.get j=some x->∀q,up σ id ⟨w.heap.size,0,r⟩ j=some q->σ j=some q/\q.b<w.heap.size:=by
  intro j x hx q hq
  have hj:j≠id:=λe=>by subst e;rw[hnone] at hx;cases hx
  have:σ j=some q:=by simpa [up,hj] using hq
  exact⟨this,hr.lt hx this⟩
 refine⟨⟨?_,?_,?_,?_,?_⟩,⟨hle,by rw[jB];simp only;omega,by rw[hw];simp,e1,e2,e3,?_,?_,by rw[sH];simp,?_,?_,?_⟩⟩
 ·intro j x hx;rw[jR] at hx;split at hx
  ·rename_i e;cases hx;subst e;refine⟨_,cC _ _ _,?_⟩;rw[hw];simpa using hor
  ·obtain⟨p,hp,h2⟩:=hr.obj j x hx;have:=hr.lt hx hp;exact⟨p,hle _ _ hp,by rw[hold _ this];exact h2.mono hle⟩
 ·intro j hj;rw[jB] at hj
  have:j≠id:=by omega
  simp[up,this,hr.fresh j hj]
 ·intro i j x y p q hij hx hy hp hq hb;rw[jR] at hx hy;split at hx
  ·rename_i e1;split at hy
   ·omega
   ·subst e1;cases hx;have h1:=hother j y hy q hq;rw[cC] at hp;cases hp;simp only at hb;omega
  ·split at hy
   ·rename_i e1;subst e1;cases hy;have h1:=hother i x hx p hp;rw[cC] at hq;cases hq;simp only at hb;omega
   ·exact hr.sep i j x y p q hij hx hy (hother i x hx p hp).1 (hother j y hy q hq).1 hb
 ·intro i cs f hi;rw[jR] at hi;split at hi
  ·rename_i e;cases hi;subst e;have:=hof cs f rfl;subst this;refine⟨by rw[jB];omega,f,f,?_,.inl rfl⟩;unfold H.lay;exact bC _ _ _
  ·obtain⟨b1,x,y,b2,b3⟩:=hr.aX i cs f hi;refine⟨by rw[jB];omega,x,y,?_,b3⟩;have hne:f≠id:=λe=>hf i cs (e▸hi);unfold H.lay;split
   ·simp only;rw[aJ _ _ hne];exact b2
   ·exact b2
 ·rw[sH,jB];exact hr.qo
 ·intro j x q hx hq;rw[jR] at hx;split at hx
  ·rename_i e;subst e;rw[cC] at hq;cases hq;exact .inl (al _)
  ·exact .inr ⟨j,x,q,hx,(hother j x hx q hq).1,rfl,λh=>h⟩
 ·intro b hb _;exact hold b hb
 ·intro j hj hjn;rw[sH] at hj;rw[jR,ul (by omega)]
 ·intro j hj hn;have hj:j<id:=hj;simp only[up];rw[ul (by omega)];exact hn
 ·intro j cs f hj;rw[jR] at hj;split at hj
  ·cases hj;exact .inl (Nat.le_of_eq (hof cs f rfl).symm)
  ·exact .inr ⟨j,cs,hj⟩
def HR.more{σ:Sg}{h:H}{w:World}(hr:HR σ h w)(n:Nat)(hn:h.next<=n):HR σ { h with next:=n } w:=
 ⟨hr.obj,λid hid=>hr.fresh id (bc hn hid),hr.sep,λi cs f hi=>let ⟨a,b⟩:=hr.aX i cs f hi;⟨a0 a hn,b⟩,bc hr.qo hn⟩
def Ext.more{σ σ':Sg}{h h':H}{w w':World}{n:Nat}(hn:h.next<=n)(he:Ext σ σ' { h with next:=n } h' w w'):Ext σ σ' h h' w w':=
 ⟨he.le,bc hn he.next,he.size,he.os,he.tape,he.output,he.EB,he.frame,he.low,λid h1 h2=>he.same id h1 (a0 h2 hn),λid h1 h2=>he.gm id (a0 h1 hn) h2,
  λid cs f ho=>(he.bW id cs f ho).imp (λh=>bc hn h) (λh=>h)⟩
def u9(h:H)(id n:Nat)(o:AO):{ h.lay id o with next:=n }=({ h with next:=n }:H).lay id o:=by unfold H.lay;split<;>rfl
def HR.new{σ:Sg}{h:H}{w w':World}(hr:HR σ h w){r:Nat}{o:AO}{ob:Obj}(hof:∀cs f,o=.cells cs f->f=h.next)
 (hor:OR (up σ h.next ⟨w.heap.size,0,r⟩) o ⟨w.heap.size,0,r⟩ (some ob)) (hw:w'.heap=w.heap.push ob) (e1:w'.os=w.os) (e2:w'.tape=w.tape) (e3:w'.output=w.output):
 HR (up σ h.next ⟨w.heap.size,0,r⟩) { h.lay h.next o with next:=h.next+1 } w'/\Ext σ (up σ h.next ⟨w.heap.size,0,r⟩) h { h.lay h.next o with next:=h.next+1 } w w':=by
 rw[u9]
 have:=HR.lay (hr.more (h.next+1) (by omega)) (id:=h.next) (o:=o) (ob:=ob) (w':=w') (r:=r) (hr.fresh _ (al _)) (by simp) hr.qo
  (λj cs hj=>by have:=(hr.aX j cs _ hj).1;omega) hof hor hw e1 e2 e3
 exact⟨this.1,this.2⟩
def xg{σ:Sg}{aS:List AV}{vs:List Value}{id b:Nat}{e:TypeId}(hv:VL σ aS vs){c:Array Value}(hc:c.toList.take vs.length=vs):OR σ (.cells aS id) ⟨b,0,c.size⟩ (some (.cells c e (0,0))):=by
 have hlen:vs.length<=c.size:=by
  have:=congrArg ei hc;simp at this;omega
 refine⟨c,e,rfl,by simp,by have:=hv.1;simp only;omega,?_⟩;intro i a ha;obtain⟨v,h1,h2⟩:=hv.get ha;refine⟨v,?_,h2⟩
 have hi:i<vs.length:=by
  rcases be i vs.length with h | h
  ·exact h
  ·simp[ap h] at h1
 rw[<-hc,a9,t8 hi] at h1;simpa using h1
def gI:∀(x y:List UInt8),x.map (·.toNat)=y.map (·.toNat)->x=y
 | [],[],_=>rfl
 | [],b::y,h=>by simp at h
 | a::x,[],h=>by simp at h
 | a::x,b::y,h=>by
  simp only[dc,List.cons.injEq] at h;rw[UInt8.toNat_inj.1 h.1,gI x y h.2]
def jO{a b:List Nat}{s t:ByteArray}(h:s.data.toList.map (·.toNat)=a)(k:t.data.toList.map (·.toNat)=b):my a b=(s.toList==t.toList):=by
 rw[ou,ByteArray.toList_eq,ByteArray.toList_eq,<-h,<-k];by_cases e:s.data.toList=t.data.toList
 ·simp[e]
 ·have:¬(s.data.toList.map (·.toNat)=t.data.toList.map (·.toNat)):=λh=>e (gI _ _ h);simp only[this,decide_false];symm;exact beq_eq_false_iff_ne.2 e
def jU:∀(x y:List UInt8),db (x.map (·.toNat)) (y.map (·.toNat))=Op.bytesLess x y
 | x,[]=>by cases x<;>simp[db,Op.bytesLess]
 | [],b::y=>by simp[db,Op.bytesLess]
 | a::x,b::y=>by
  simp only[dc,db,Op.bytesLess,jU x y]
  have e1:blt a.toNat b.toNat=decide (a<b):=by
   cases h:blt a.toNat b.toNat
   ·have:=yY h;symm;simp[UInt8.lt_iff_toNat_lt];omega
   ·have:=df h;symm;simp[UInt8.lt_iff_toNat_lt];omega
  have e2:beq a.toNat b.toNat=(a==b):=by
   cases h:beq a.toNat b.toNat
   ·have:=dT h;symm;simp;intro e;subst e;exact this rfl
   ·have:=bD h;symm;simp;exact UInt8.toNat_inj.1 this
  rw[e1,e2]
def lY{l:List Nat}{s:ByteArray}(h:s.data.toList.map (·.toNat)=l):s.size=l.length:=by
 rw[<-h,List.length_map,Array.length_toList];rfl
def lS{P:Program}{σ:Sg}{w:World}{d D:Nat}(ih:∀(t:TypeId) (x y:AV) (v u:Value) (b:Bool),fU P d t x y=some b->V σ x v->V σ y u->(Op.equalIn D t v u).run P w=.ok b w)
 {xs ys:List AV} {vs us:Array Value} (hx:VL σ xs vs.toList) (hy:VL σ ys us.toList):∀(fs:List Field) (b:Bool),eqFields P (fU P d) fs xs ys=some b->(Op.eqFields D vs us fs).run P w=.ok b w
 | [],b,h=>by simp[eqFields] at h;subst h;rfl
 | f::fs,b,h=>by
  simp only[eqFields] at h;cases hn:f.name== "_"
  ·rw[hn,ah] at h
   have hne:f.name≠ "_":=by simpa using hn
   cases h1:partA P f.type xs f.offset with
   | none=>simp[h1] at h
   | some a=>
    cases h2:partA P f.type ys f.offset with
    | none=>simp[h1,h2] at h
    | some c=>
     simp only[h1,h2] at h;obtain⟨v,hv,hV⟩:=eG (w:=w) hx h1;obtain⟨u,hu,hU⟩:=eG (w:=w) hy h2;simp only[Op.eqFields,hne,ne_eq,not_false_eq_true,if_true,Sem.run_bind,hv,Result.andThen_ok,hu]
     cases h3:fU P d f.type a c with
     | none=>simp[h3] at h
     | some r=>
      rw[ih _ _ _ _ _ _ h3 hV hU];cases r
      ·simp[h3] at h;subst h;simp
      ·simp only[h3] at h;simp only[Result.andThen_ok,Bool.not_true,Bool.false_eq_true,if_false];exact lS ih hx hy fs b h
  ·simp[hn] at h
def np{P:Program}{σ:Sg}{w:World}{d D e s:Nat}(ih:∀(t:TypeId) (x y:AV) (v u:Value) (b:Bool),fU P d t x y=some b->V σ x v->V σ y u->(Op.equalIn D t v u).run P w=.ok b w)
 {xs ys:List AV} {vs us:Array Value} (hx:VL σ xs vs.toList) (hy:VL σ ys us.toList):∀(m i:Nat) (b:Bool),lg P (fU P d e) e s xs ys m i=some b->
 (forIn (m:=Sem) (range' i m) ((none,()):Option Bool×Unit) λi _=>do
  let a <-part e vs (i*s)
  let c <-part e us (i*s)
  let q <-Op.equalIn D e a c
  if (!q)=true then pure (.done (some false,())) else pure (.yield (none,()))).run P w=.ok (if b then (none,()) else (some false,())) w
 | 0,i,b,h=>by simp[lg] at h;subst h;simp
 | m+1,i,b,h=>by
  simp only[lg] at h
  cases h1:partA P e xs (i*s) with
  | none=>simp[h1] at h
  | some a=>
   cases h2:partA P e ys (i*s) with
   | none=>simp[h1,h2] at h
   | some c=>
    simp only[h1,h2] at h;obtain⟨v,hv,hV⟩:=eG (w:=w) hx h1;obtain⟨u,hu,hU⟩:=eG (w:=w) hy h2;rw[d0,cn];simp only[Sem.run_bind,hv,Result.andThen_ok,hu]
    cases h3:fU P d e a c with
    | none=>simp[h3] at h
    | some r=>
     rw[ih _ _ _ _ _ _ h3 hV hU];cases r
     ·simp[h3] at h;subst h;simp
     ·simp only[h3] at h;simp only[Result.andThen_ok,b9,ay,if_false,Sem.run_pure];exact np ih hx hy m (i+1) b h
def zm{P:Program}{σ:Sg}{w:World}(k:Nat):∀(d:Nat) (t:TypeId) (x y:AV) (v u:Value) (b:Bool),fU P d t x y=some b->V σ x v->V σ y u->(Op.equalIn (d+k) t v u).run P w=.ok b w:=by
 intro d
 induction d with
 | zero=>intro t x y v u b h;simp[fU] at h
 | succ d ih=>
  intro t x y v u b h hv hu;rw[show d+1+k=(d+k)+1 by omega];simp only[fU] at h;split at h
  case h_1 hu'=>simp only[Option.some.injEq] at h;subst h;cases hv;cases hu;simp[Op.equalIn,aA hu']
  case h_2 hu'=>
   obtain⟨hk,h⟩:=aw h;simp only[Option.some.injEq] at h;subst h;have:=(ox _ _).1 hk;subst this;cases hv;cases hu;simp[Op.equalIn,aA hu',lh]
  case h_3 hu'=>
   simp only[Option.some.injEq] at h;subst h
   cases hv with
   | str h1=>cases hu with
    | str h2=>simp[Op.equalIn,aA hu',jO h1 h2,beq_toListBytes]
  case h_4 hu'=>
   simp only[Option.some.injEq] at h;subst h;cases hv;cases hu<;>simp[Op.equalIn,aA hu']
  case h_5 hu'=>simp only[Option.some.injEq] at h;subst h;cases hv;cases hu;simp[Op.equalIn,aA hu']
  case h_6 hu'=>
   simp only[Option.some.injEq] at h;subst h;cases hv;cases hu<;>simp[Op.equalIn,aA hu']
  case h_7 hu'=>simp only[Option.some.injEq] at h;subst h;cases hv;cases hu;simp[Op.equalIn,aA hu']
  case h_8 hu'=>
   simp only[Option.some.injEq] at h;subst h;cases hv;cases hu<;>simp[Op.equalIn,aA hu']
  case h_9 hu'=>simp only[Option.some.injEq] at h;subst h;cases hv;cases hu;simp[Op.equalIn,aA hu']
  case h_10 hu'=>simp only[Option.some.injEq] at h;subst h;cases hv;cases hu;simp[Op.equalIn,aA hu']
  case h_11 hu'=>simp only[Option.some.injEq] at h;subst h;cases hv;cases hu<;>simp[Op.equalIn,aA hu']
  case h_12 hu'=>simp only[Option.some.injEq] at h;subst h;cases hu;cases hv<;>simp[Op.equalIn,aA hu']
  case h_13 fs xs ys hu'=>
   cases hs:P.stoodInHeld t
   ·rw[hs,ah] at h;obtain⟨vs,rfl,hvs⟩:=hv.ie;obtain⟨us,rfl,hus⟩:=hu.ie
    have hf:P.fieldsOf t=fs:=by simp[Program.fieldsOf,hu']
    rw[run_equalIn_struct w (d+k) t vs us (by rw[hf];exact hu') hs,hf];exact lS (λt x y v u b h h1 h2=>ih t x y v u b h h1 h2) hvs hus _ _ h
   ·simp[hs] at h
  case h_14 n e xs ys hu'=>
   cases hs:bn P e with
   | none=>simp[hs] at h
   | some s=>
    simp only[hs,ac] at h;obtain⟨vs,rfl,hvs⟩:=hv.ie;obtain⟨us,rfl,hus⟩:=hu.ie;have hr:=np (λt x y v u b h h1 h2=>ih t x y v u b h h1 h2) hvs hus n 0 b h;simp only[Op.equalIn,Sem.run_bind,aA hu',Result.andThen_ok,aT hs];simp only[Std.Legacy.Range.forIn_eq_forIn_range',Std.Legacy.Range.size,d8,co,Nat.div_one];rw[hr];cases b<;>simp
  case h_15=>simp at h
def lR{P:Program}{σ:Sg}{w:World}{em:Bool}{D:Nat}{ck:TypeId->AV->Bool}(ih:∀(t:TypeId) (x:AV) (v:Value),ck t x=true->V σ x v->(Instr.checkKey em D t v).run P w=.ok () w)
 {xs:List AV} {vs:Array Value} (hx:VL σ xs vs.toList):∀(fs:List Field),iw P ck fs xs=true->
 (forIn (m:=Sem) fs PUnit.unit λf _=>if f.name≠ "_" then do
  let a <-part f.type vs f.offset
  Instr.checkKey em D f.type a
  pure (.yield PUnit.unit) else pure (.yield PUnit.unit)).run P w=.ok PUnit.unit w
 | [],_=>by simp
 | f::fs,h=>by
  simp only[iw,Bool.and_eq_true] at h;obtain⟨h1,h2,h3⟩:=h
  have hne:f.name≠ "_":=by simpa using h1
  cases h4:partA P f.type xs f.offset with
  | none=>simp[h4] at h2
  | some a=>
   simp only[h4] at h2;obtain⟨v,hv,hV⟩:=eG (w:=w) hx h4;rw[List.forIn_cons];simp only[hne,ne_eq,not_false_eq_true,if_true,Sem.run_bind,hv,Result.andThen_ok,ih _ _ _ h2 hV,Sem.run_pure];exact lR ih hx fs h3
def nk{P:Program}{σ:Sg}{w:World}{em:Bool}{D e s:Nat}{ck:AV->Bool}(ih:∀(x:AV) (v:Value),ck x=true->V σ x v->(Instr.checkKey em D e v).run P w=.ok () w)
 {xs:List AV} {vs:Array Value} (hx:VL σ xs vs.toList) (hs:bn P e=some s):∀(m i:Nat),ot P ck e s xs m i=true->
 (forIn (m:=Sem) (range' i m) PUnit.unit λi _=>do
  let n <-sizeOf e
  let a <-part e vs (i*n)
  Instr.checkKey em D e a
  pure (.yield PUnit.unit)).run P w=.ok PUnit.unit w
 | 0,i,_=>by simp
 | m+1,i,h=>by
  simp only[ot,ad] at h;obtain⟨h1,h2⟩:=h
  cases h4:partA P e xs (i*s) with
  | none=>simp[h4] at h1
  | some a=>
   simp only[h4] at h1;obtain⟨v,hv,hV⟩:=eG (w:=w) hx h4;rw[d0,cn];simp only[Sem.run_bind,aT hs,hv,Result.andThen_ok,ih _ _ h1 hV,Sem.run_pure];exact nk ih hx hs m (i+1) h2
def CT{P:Program}{σ:Sg}{w:World}(em:Bool)(k:Nat):∀(d:Nat) (t:TypeId) (x:AV) (v:Value),uD P d t x=true->V σ x v->(Instr.checkKey em (d+k) t v).run P w=.ok () w:=by
 intro d
 induction d with
 | zero=>intro t x v h;simp[uD] at h
 | succ d ih=>
  intro t x v h hv;rw[show d+1+k=(d+k)+1 by omega];simp only[uD] at h;split at h
  case h_1 hu=>cases hv;simp[Instr.checkKey,aA hu]
  case h_2 hu=>cases hv;simp[Instr.checkKey,aA hu]
  case h_3 hu=>cases hv;simp[Instr.checkKey,aA hu]
  case h_4 fs xs hu=>
   obtain⟨vs,rfl,hvs⟩:=hv.ie;have:=lR (w:=w) (em:=em) (λt x v h1 h2=>ih t x v h1 h2) hvs fs.toList h;simp only[Instr.checkKey,Sem.run_bind,aA hu,Result.andThen_ok];rw[<-Array.forIn_toList,this];simp
  case h_5 n e xs hu=>
   cases hs:bn P e with
   | none=>simp[hs] at h
   | some s=>
    simp only[hs] at h;obtain⟨vs,rfl,hvs⟩:=hv.ie;have:=nk (w:=w) (em:=em) (λx v h1 h2=>ih e x v h1 h2) hvs hs n 0 h;simp only[Instr.checkKey,Sem.run_bind,aA hu,Result.andThen_ok];simp only[Std.Legacy.Range.forIn_eq_forIn_range',Std.Legacy.Range.size,d8,co,Nat.div_one];rw[this];simp
  case h_6=>simp at h
def eS{P:Program}{σ:Sg}{w:World}{t:TypeId}{x:AV}{v:Value}(h:nQ P t x=true)(hv:V σ x v)(em:Bool):(Instr.checkKey em 10000 t v).run P w=.ok () w:=
 CT em 9996 4 t x v h hv
def EL(σ:Sg)(es:List (AV×AV×Nat))(es':List MapEntry):Prop:=es.length=es'.length/\∀(i:Nat) (e:AV×AV×Nat) (m:MapEntry),es[i]?=some e->es'[i]?=some m->ER σ e m
def EL.cons{σ:Sg}{e:AV×AV×Nat}{es:List (AV×AV×Nat)}{l:List MapEntry}(h:EL σ (e::es) l):∃m l',l=m::l'/\ER σ e m/\EL σ es l':=by
 cases l with
 | nil=>have:=h.1;simp at this
 | cons m l'=>exact⟨m,l',rfl,h.2 0 e m (by simp) (by simp),by have:=h.1;simpa using this,λi x y hx hy=>h.2 (i+1) x y (by simpa using hx) (by simpa using hy)⟩
def EL.nil{σ:Sg}{l:List MapEntry}(h:EL σ [] l):l=[]:=by
 cases l with
 | nil=>rfl
 | cons m l'=>have:=h.1;simp at this
def found(r:Option Nat)(i:Nat)(l:List MapEntry):Option (Nat×Value):=match r with
 | none=>none
 | some j=>(l[j-i]?).map λm=>(j,m.val)
def lx{P:Program}{kt:TypeId}{k:AV}:∀(es:List (AV×AV×Nat)) (i j:Nat),dN P kt k es i=some (some j)->i<=j/\j<i+es.length
 | [],i,j,h=>by simp[dN] at h
 | e::es,i,j,h=>by
  simp only[dN] at h;split at h
  ·simp at h;subst h;simp
  ·have:=lx es (i+1) j h;simp;omega
  ·simp at h
def pa{r:Option Nat}{i:Nat}{m:MapEntry}{l:List MapEntry}(h:∀j,r=some j->i+1<=j):found r i (m::l)=found r (i+1) l:=by
 cases r with
 | none=>rfl
 | some j=>have:=h j rfl;simp only[found];rw[show j-i=(j-(i+1))+1 by omega,bb]
def ju{P:Program}{σ:Sg}{w:World}{kt:TypeId}{k:AV}{v:Value}(hk:V σ k v):∀(es:List (AV×AV×Nat)) (l:List MapEntry) (i:Nat) (r:Option Nat),
 dN P kt k es i=some r->EL σ es l->(Instr.findAsking kt v l i).run P w=.ok (found r i l) w
 | [],l,i,r,h,hl=>by have:=hl.nil;subst this;simp[dN] at h;subst h;simp[Instr.findAsking,found]
 | e::es,l,i,r,h,hl=>by
  obtain⟨m,l',rfl,he,hl'⟩:=hl.cons;simp only[dN] at h
  cases h1:fU P 4 kt k e.1 with
  | none=>simp[h1] at h
  | some b=>
   have hr:(Op.equal kt v m.key).run P w=.ok b w:=zm 9996 4 kt k e.1 v m.key b h1 hk he.1;simp only[Instr.findAsking,Sem.run_bind,hr,Result.andThen_ok];cases b
   ·simp only[h1] at h;rw[ul (by simp),ju hk es l' (i+1) r h hl'];rw[pa];intro j hj;subst hj;exact(lx es (i+1) j h).1
   ·simp only[h1,Option.some.injEq] at h;subst h;simp[found]
def xU{P:Program}{σ:Sg}{d:Nat}{kt:TypeId}{kd:TypeDesc}(hu:P.underlying kt=some kd){x y:AV}{v u:Value}{b c:Bool}(h:fU P (d+1) kt x y=some b)(hx:V σ x v)(hy:V σ y u)(hn:Instr.sameNow kd v u=some c):c=b:=by
 simp only[fU,hu] at h;unfold Instr.sameNow at hn;split at hn
 ·cases hx with
  | any _=>simp at h
  | int=>cases hy with
   | any _=>simp at h
   | int=>
    obtain⟨h1,h2⟩:=aw h;have:=(ox _ _).1 h1;subst this;simp only[if_true,Option.some.injEq] at hn h2;rw[<-hn,<-h2,lh]
 ·cases hx with
  | any _=>simp at h
  | str h1=>cases hy with
   | any _=>simp at h
   | str h2=>
    simp only[Option.some.injEq] at h hn;rw[<-hn,<-h,jO h1 h2,beq_toListBytes]
 ·cases hx with
  | any _=>simp at h
  | bool=>cases hy with
   | any _=>simp at h
   | bool=>
    simp only[Option.some.injEq] at h hn;rw[<-hn,<-h]
 ·simp at hn
def oZ{P:Program}{σ:Sg}{kt:TypeId}{kd:TypeDesc}(hu:P.underlying kt=some kd){k:AV}{v:Value}(hk:V σ k v):∀(es:List (AV×AV×Nat)) (l:List MapEntry) (i:Nat) (r:Option Nat) (q:Option (Nat×Value)),
 dN P kt k es i=some r->EL σ es l->Instr.findNow kd v l i=some q->q=found r i l
 | [],l,i,r,q,h,hl,hn=>by have:=hl.nil;subst this;simp[dN] at h;subst h;simp[Instr.findNow] at hn;subst hn;rfl
 | e::es,l,i,r,q,h,hl,hn=>by
  obtain⟨m,l',rfl,he,hl'⟩:=hl.cons;simp only[dN] at h
  cases h1:fU P 4 kt k e.1 with
  | none=>simp[h1] at h
  | some b=>
   simp only[Instr.findNow] at hn
   cases hs:Instr.sameNow kd v m.key with
   | none=>simp[hs] at hn
   | some c=>
    have:=xU hu h1 hk he.1 hs;subst this;cases c
    ·simp only[h1] at h;simp only[hs] at hn;rw[oZ hu hk es l' (i+1) r q h hl' hn,pa];intro j hj;subst hj;exact(lx es (i+1) j h).1
    ·simp only[h1,Option.some.injEq] at h;simp only[hs,Option.some.injEq] at hn;subst h;subst hn;simp[found]
def gR{P:Program}{σ:Sg}{w:World}{kt:TypeId}{kd:TypeDesc}(hu:P.underlying kt=some kd){k:AV}{v:Value}(hk:V σ k v){es:List (AV×AV×Nat)}{l:List MapEntry}{r:Option Nat}
 (h:dN P kt k es 0=some r) (hl:EL σ es l):(Instr.findKey kt v l).run P w=.ok (found r 0 l) w:=by
 simp only[Instr.findKey,Sem.run_bind,aA hu,Result.andThen_ok]
 cases hn:Instr.findNow kd v l 0 with
 | some q=>rw[oZ hu hk es l 0 r q h hl hn];simp
 | none=>exact ju hk es l 0 r h hl
def iL{eq:AV->AV->Bool}(ih:∀a b,eq a b=true->a=b):∀xs ys:List AV,dZ eq xs ys=true->xs=ys
 | [],[],_=>rfl
 | [],_::_,h=>by simp[dZ] at h
 | _::_,[],h=>by simp[dZ] at h
 | x::xs,y::ys,h=>by
  simp only[dZ,ad] at h;rw[ih x y h.1,iL ih xs ys h.2]
def BM:∀(n:Nat) (a b:AV),dM n a b=true->a=b:=by
 intro n
 induction n with
 | zero=>intro a b h;simp[dM] at h
 | succ n ih=>
  intro a b h;simp only[dM] at h;split at h
  case h_1=>simp at h;rw[h]
  case h_2=>simp only[ad] at h;have h2:=h.2;rw[lh] at h2;rw[(ox _ _).1 h.1,beq_iff_eq.1 h2]
  case h_3=>rw[ou] at h;rw[ww h]
  case h_4=>rfl
  case h_5=>simp only[ad] at h;rw[bD h.1,bD h.2]
  case h_6=>
   simp only[ad] at h;obtain⟨⟨⟨⟨h1,h2⟩,h3⟩,h4⟩,h5⟩:=h;rw[bD h1,bD h2,bD h3,bD h4];split at h5
   ·rfl
   ·rw[bD h5]
   ·simp at h5
  case h_7=>simp only[ad] at h;rw[bD h.1.1,bD h.1.2,bD h.2]
  case h_8=>rfl
  case h_9=>rw[bD h]
  case h_10=>rfl
  case h_11=>rfl
  case h_12=>rw[iL ih _ _ h]
  case h_13=>rw[iL ih _ _ h]
  case h_14=>rw[bD h]
  case h_15=>simp only[ad] at h;rw[bD h.1,iL ih _ _ h.2.1,iL ih _ _ h.2.2]
  case h_16=>simp only[ad] at h;rw[bD h.1,ih _ _ h.2]
  case h_17=>simp only[ad] at h;rw[ww h.1,iL ih _ _ h.2.1,iL ih _ _ h.2.2]
  case h_18=>simp at h
def lA{σ:Sg}{x:AV}{v u:Value}(hf:gu x=true)(h:V σ x v)(k:V σ x u):v=u/\∀n,Instr.sameBits n v u=true:=by
 cases x<;>simp[gu] at hf
 ·cases h;cases k;exact⟨rfl,λn=>by cases n<;>simp[Instr.sameBits]⟩
 ·cases h;cases k;exact⟨rfl,λn=>by cases n<;>simp[Instr.sameBits]⟩
 ·cases h with
  | @str _ s h1=>cases k with
   | @str _ t h2=>
    have e:s=t:=by
     have:=gI _ _ (h1.trans h2.symm);obtain⟨⟨a⟩⟩:=s;obtain⟨⟨b⟩⟩:=t;simp only at this;subst this;rfl
    subst e
    have hb:(s==s)=true:=by rw[beq_toListBytes];simp
    exact⟨rfl,λn=>by cases n<;>simpa [Instr.sameBits] using hb⟩
def rl{σ:Sg}:∀(xs:List AV) (vs us:List Value),xs.all gu=true->VL σ xs vs->VL σ xs us->vs=us/\∀n,(vs.zip us).all (λ(x,y)=>Instr.sameBits n x y)=true
 | [],vs,us,_,h,k=>by have:=h.iX;subst this;have:=k.iX;subst this;exact⟨rfl,λn=>by simp⟩
 | x::xs,vs,us,hf,h,k=>by
  obtain⟨v,vs',rfl,h1,h2⟩:=h.bY;obtain⟨u,us',rfl,k1,k2⟩:=k.bY;simp only[d7,ad] at hf;obtain⟨a,b⟩:=lA hf.1 h1 k1;obtain⟨c,d⟩:=rl xs vs' us' hf.2 h2 k2;exact⟨by rw[a,c],λn=>by simp only[List.zip_cons_cons,d7,b n,d n,Bool.and_self]⟩
def rR{P:Program}{σ:Sg}{w:World}{k gm:AV}{v u:Value}(h:stays k gm=true)(hv:V σ k v)(hu:V σ gm u):(Instr.keyThatStays u v).run P w=.ok v w:=by
 simp only[stays,ad] at h;have:=BM _ _ _ h.2;subst this
 have hs:Instr.sameBits 10000 u v=true:=by
  have hk:=h.1
  cases k with
  | agg cs=>
   obtain⟨vs,rfl,hvs⟩:=hv.ie;obtain⟨us,rfl,hus⟩:=hu.ie;obtain⟨e,hall⟩:=rl cs us.toList vs.toList hk hus hvs
   have hsz:us.size=vs.size:=by have:=congrArg ei e;simpa using this
   simp only[Instr.sameBits,hsz,beq_self_eq_true,Bool.true_and];exact hall 9999
  | bool _=>exact(lA rfl hu hv).2 _
  | int _ _=>exact(lA rfl hu hv).2 _
  | str _=>exact(lA rfl hu hv).2 _
  | _=>simp[sR,gu] at hk
 simp[Instr.keyThatStays,hs]
def BE{P:Program}{σ:Sg}{w:World}{op:BinOp}{a b:Int}{r:AV}(h:su op a b=some r):∃v,(Op.intCmp op a b).run P w=.ok v w/\V σ r v:=by
 unfold su at h;split at h
 all_goals first
  | (simp only[Option.some.injEq] at h;subst h;refine⟨_,rfl,?_⟩)
  | (simp at h;done)
 ·rw[lh];exact .bool _
 ·rw[lh];exact .bool _
 ·rw[dj]
  have e:(!decide (b<=a))=decide (a<b):=by by_cases h:b<=a<;>simp[h]<;>omega
  rw[e];exact .bool _
 ·rw[dj];exact .bool _
 ·rw[dj]
  have e:(!decide (a<=b))=decide (a>b):=by by_cases h:a<=b<;>simp[h]<;>omega
  rw[e];exact .bool _
 ·rw[dj];exact .bool _
def zA{b:Int}(h:BQ b=false):b≠0:=by
 intro e;subst e;simp[BQ] at h
def BK{P:Program}(d:Nat)(t:TypeId)(y:AV):fU P d t .any y=none:=by
 cases d with
 | zero=>rfl
 | succ d=>unfold fU;split<;>simp_all
def BL{P:Program}(d:Nat)(t:TypeId)(x:AV):fU P d t x .any=none:=by
 cases d with
 | zero=>rfl
 | succ d=>unfold fU;split<;>simp_all
def oN{P:Program}{op:BinOp}{t:TypeId}{x y r:AV}(h:bz P op t x y=some r):x≠.any/\y≠.any:=by
 constructor
 ·rintro rfl;unfold bz at h;split at h
  case h_1=>simp_all
  case h_2=>simp_all
  case h_3=>simp_all
  case h_4=>split at h<;>simp[BK] at h<;>(cases hg:P.eqGuardType P.depth t<;>simp[hg] at h)
 ·rintro rfl;unfold bz at h;split at h
  case h_1=>simp_all
  case h_2=>simp_all
  case h_3=>simp_all
  case h_4=>split at h<;>simp[BL] at h<;>(cases hg:P.eqGuardType P.depth t<;>simp[hg] at h)
def BB{P:Program}{σ:Sg}{w:World}{op:BinOp}{t:TypeId}{x y:AV}{v u:Value}{r:AV}(h:bz P op t x y=some r)(hv:V σ x v)(hu:V σ y u):
 ∃z,(binOp op t v u).run P w=.ok z w/\V σ r z:=by
 have hany:=oN h;unfold bz at h;split at h
 case h_1 k a k' b=>
  cases hv;cases hu;split at h
  case h_1=>
   obtain⟨h0,h⟩:=aw h;simp only[ad,dj,wp] at h0;simp only[Option.some.injEq] at h;subst h;refine⟨_,by simp only[binOp,Op.shift];rw[ul (by omega)];rfl,?_⟩;rw[dS];simp only[dv];exact .int _ _
  case h_2=>
   obtain⟨h0,h⟩:=aw h;simp only[ad,dj,wp] at h0;simp only[Option.some.injEq] at h;subst h;refine⟨_,by simp only[binOp,Op.shift];rw[ul (by omega)];rfl,?_⟩;simp only[dv];exact .int _ _
  case h_3 hn1 hn2=>
   obtain⟨hk,h2⟩:=aw h;clear h;have:=(ox _ _).1 hk;subst this;have h:=h2;clear h2;split at h
   ·simp only[Option.some.injEq] at h;subst h;exact⟨.int k (k.wrap (a+b)),by simp[binOp,Op.intArith],by rw[dS];exact .int _ _⟩
   ·simp only[Option.some.injEq] at h;subst h;exact⟨.int k (k.wrap (a-b)),by simp[binOp,Op.intArith],by rw[dS];exact .int _ _⟩
   ·simp only[Option.some.injEq] at h;subst h;exact⟨.int k (k.wrap (a*b)),by simp[binOp,Op.intArith],by rw[dS];exact .int _ _⟩
   ·cases hz:BQ b
    ·rw[hz,ah] at h;have:=zA hz;simp only[Option.some.injEq] at h;subst h;exact⟨.int k (k.wrap (a.tdiv b)),by simp[binOp,Op.intDiv,this],by rw[dS];exact .int _ _⟩
    ·simp[hz] at h
   ·cases hz:BQ b
    ·rw[hz,ah] at h;have:=zA hz;simp only[Option.some.injEq] at h;subst h;exact⟨.int k (a.tmod b),by simp[binOp,Op.intDiv,this],.int _ _⟩
    ·simp[hz] at h
   ·simp at h
   ·simp at h
   ·simp at h
   ·simp at h
   ·obtain⟨z,hz,hV⟩:=BE (P:=P) (σ:=σ) (w:=w) h;refine⟨z,?_,hV⟩;cases op<;>simp_all [binOp]
 case h_2 a b=>
  cases hv with
  | str h1=>cases hu with
   | str h2=>
    rename_i s1 s2;have e1:=jO h1 h2
    have e2:db a b=Op.bytesLess s1.toList s2.toList:=by rw[<-h1,<-h2,ByteArray.toList_eq,ByteArray.toList_eq];exact jU _ _
    split at h
    ·obtain⟨h0,h9⟩:=aw h;have h0:=eu h0;simp only[Option.some.injEq] at h9;subst h9;refine⟨_,by simp only[binOp,Op.stringOp];rw[ul];rfl;rw[lY h1,lY h2];simp[IntKind.max,IntKind.signed,IntKind.bits];omega,?_⟩;refine .str ?_;rw[<-h1,<-h2];simp[ByteArray.data_append]
    all_goals first
     | (simp only[Option.some.injEq] at h;subst h;refine⟨_,rfl,?_⟩;simp only[e1,e2];exact .bool _)
     | simp at h
 case h_3=>simp at h
 case h_4=>
  have hne:(∀k a k' b,¬(v=.int k a/\u=.int k' b))/\(∀a b,¬(v=.string a/\u=.string b)):=by
   refine⟨?_,?_⟩
   ·rintro k a k' b ⟨rfl,rfl⟩
    cases hv with
    | any _=>exact hany.1 rfl
    | int=>cases hu with
     | any _=>exact hany.2 rfl
     | int=>
      simp_all
      rename_i hx;exact hx _ _ _ _ rfl rfl rfl rfl
   ·rintro a b ⟨rfl,rfl⟩
    cases hv with
    | any _=>exact hany.1 rfl
    | str=>cases hu with
     | any _=>exact hany.2 rfl
     | str=>simp_all
  have heq:∀b,fU P 8 t x y=some b->(Op.equal t v u).run P w=.ok b w:=λb hb=>zm 9992 8 t x y v u b hb hv hu;split at h
  ·cases hg:P.eqGuardType P.depth t
   ·rw[hg,ah] at h
    cases he:fU P 8 t x y with
    | none=>simp[he] at h
    | some b=>
     simp only[he,af,Option.some.injEq] at h;subst h;refine⟨.bool b,?_,.bool _⟩;have:=heq b he;simp only[fU] at he
     split at he<;>cases hv<;>cases hu<;>first
      | (simp only[binOp,Sem.run_bind,this,Result.andThen_ok,Sem.run_pure];done)
      | (exact t7 ⟨rfl,rfl⟩ (hne.1 _ _ _ _))
      | (exact t7 ⟨rfl,rfl⟩ (hne.2 _ _))
      | (simp at he;done)
   ·simp[hg] at h
  ·cases hg:P.eqGuardType P.depth t
   ·rw[hg,ah] at h
    cases he:fU P 8 t x y with
    | none=>simp[he] at h
    | some b=>
     simp only[he,af,Option.some.injEq] at h;subst h;refine⟨.bool (!b),?_,.bool _⟩;have:=heq b he;simp only[fU] at he
     split at he<;>cases hv<;>cases hu<;>first
      | (simp only[binOp,Sem.run_bind,this,Result.andThen_ok,Sem.run_pure];done)
      | (exact t7 ⟨rfl,rfl⟩ (hne.1 _ _ _ _))
      | (exact t7 ⟨rfl,rfl⟩ (hne.2 _ _))
      | (simp at he;done)
   ·simp[hg] at h
  ·simp at h
def uM{P:Program}{σ:Sg}{w:World}{op:BinOp}{t:TypeId}{X Y:Operand}{x y:AV}{v u:Value}{r:AV}(h:bz P op t x y=some r)(hv:V σ x v)(hu:V σ y u):
 (eqGuard op t X Y v u).run P w=.ok () w:=by
 by_cases hop:op=.eql\/op=.neq
 ·have hx:v≠.nilIface:=by
   intro e;subst e
   cases hv with
   | any _=>exact(oN h).1 rfl
   | nT=>unfold bz at h;split at h<;>simp_all
  have hg:∀a b,v=.agg a->u=.agg b->P.eqGuardType P.depth t=false:=by
   intro a b e1 e2;subst e1;subst e2;have hany:=oN h
   cases hv with
   | any hh=>exact t7 rfl (hh a)
   | agg=>
    cases hu with
    | any hh=>exact t7 rfl (hh b)
    | agg=>
     cases hg:P.eqGuardType P.depth t
     ·rfl
     ·unfold bz at h
      rcases hop with rfl | rfl<;>simp[hg] at h
  unfold eqGuard
  rcases hop with rfl | rfl<;>simp only[b9,ay,if_false]
  all_goals
   cases v<;>first
    | exact t7 rfl hx
    | (cases u<;>first
     | rfl
     | (simp[hg _ _ rfl rfl];done)
     | (simp;done))
 ·cases op<;>first
   | exact t7 (.inl rfl) hop
   | exact t7 (.inr rfl) hop
   | rfl
def Dx{P:Program}{σ:Sg}{w:World}{op:UnOp}{x:AV}{v:Value}{r:AV}(h:Es op x=some r)(hv:V σ x v):∃z,(Op.unary op v).run P w=.ok z w/\V σ r z:=by
 unfold Es at h;split at h
 ·cases hv;simp only[Option.some.injEq] at h;subst h;exact⟨_,rfl,by rw[dS];exact .int _ _⟩
 ·cases hv;simp only[Option.some.injEq] at h;subst h;exact⟨_,rfl,.bool _⟩
 ·simp at h
def AF{P:Program}{σ:Sg}{w:World}{s d:TypeId}{x:AV}{v:Value}{r:AV}(h:fO P s d x=some r)(hv:V σ x v):∃z,(convert s d v).run P w=.ok z w/\V σ r z:=by
 unfold fO at h;split at h
 ·rename_i h1 h2;cases hv;simp only[Option.some.injEq] at h;subst h;rename_i k _ n;exact⟨.int k (k.wrap n),by simp[convert,aA h1,aA h2,Conv.intToInt],by rw[dS];exact .int _ _⟩
 ·rename_i h1 h2;simp only[Option.some.injEq] at h;subst h
  cases hv with
  | str hs=>exact⟨_,by simp[convert,aA h1,aA h2],.str hs⟩
 ·simp at h
def rm(off:Nat):∀(l:List Value) (k:Nat) (cells:Array Value),off+k+l.length<=cells.size->
 ((l.zipIdx k).foldl (λcs (p:Value×Nat)=>cs.setIfInBounds (off+p.2) p.1) cells).toList=cells.toList.take (off+k)++(l++cells.toList.drop (off+k+l.length))
 | [],k,cells,_=>by simp
 | v::l,k,cells,h=>by
  simp only[List.length_cons] at h;rw[List.zipIdx_cons,List.foldl_cons,rm off l (k+1) _ (by simp;omega)];apply List.ext_getElem?;intro j
  have hlen:(cells.setIfInBounds (off+k) v).toList.length=cells.size:=by simp
  rw[show off+(k+1)=(off+k)+1 by omega];have a1:=ga (cells.setIfInBounds (off+k) v).toList l (off+k+1) (by rw[hlen];omega) j;rw[a1];have a2:=ga cells.toList (v::l) (off+k) (by simp;omega) j;rw[a2];simp only[List.length_cons,Array.toList_setIfInBounds];by_cases h1:j=off+k
  ·subst h1;rw[ul (by omega),t8 (by omega),List.getElem?_set_self (by simp;omega)];simp
  ·rw[List.getElem?_set_ne (by omega)];by_cases h2:off+k+1<=j/\j<off+k+1+l.length
   ·rw[t8 h2,t8 (by omega),show j-(off+k)=(j-(off+k+1))+1 by omega,List.getElem?_cons_succ]
   ·rw[ul h2,ul (by omega)]
def PL(σ:Sg)(ps:List (Nat×AV))(qs:List (Nat×Value)):Prop:=ps.length=qs.length/\∀(i:Nat) (a:Nat×AV) (v:Nat×Value),ps[i]?=some a->qs[i]?=some v->a.1=v.1/\V σ a.2 v.2
def lu{σ:Sg}{place:Nat->Option (Nat×Nat)}:∀(parts:List (Nat×AV)) (parts':List (Nat×Value)) (cells:List AV) (cells':Array Value) (r:List AV),
 fb place cells parts=some r->PL σ parts parts'->VL σ cells cells'.toList->
 ∃r':Array Value,Instr.fill place cells' parts'=some r'/\VL σ r r'.toList
 | [],parts',cells,cells',r,h,hp,hc=>by
  cases parts' with
  | nil=>simp[fb] at h;subst h;exact⟨cells',rfl,hc⟩
  | cons x y=>have:=hp.1;simp at this
 | (i,a)::parts,parts',cells,cells',r,h,hp,hc=>by
  cases parts' with
  | nil=>have:=hp.1;simp at this
  | cons x parts'=>
   obtain⟨i',v⟩:=x;have h0:=hp.2 0 (i,a) (i',v) (by simp) (by simp);simp only at h0;obtain⟨rfl,hV⟩:=h0;simp only[fb] at h
   cases hpl:place i with
   | none=>simp[hpl] at h
   | some q=>
    obtain⟨off,size⟩:=q;simp only[hpl] at h;obtain⟨hc1,h9⟩:=aw h;simp only[Bool.and_eq_true] at hc1;have e1:=bD hc1.1;have e2:=eu hc1.2;have hvc:=hV.cells;have hl1:=hvc.1;have hl2:=hc.1
    have hsz:v.cells.size=size:=by simp at hl1;omega
    have hcs:cells'.size=cells.length:=by simp at hl2;omega
    have hst:(v.cells.zipIdx.foldl (λcs (c,j)=>cs.setIfInBounds (off+j) c) cells').toList=cells'.toList.take off++(v.cells.toList++cells'.toList.drop (off+v.cells.toList.length)):=by
     have:=rm off v.cells.toList 0 cells' (by simp;omega);rw[<-Array.foldl_toList,Array.toList_zipIdx];simpa using this
    obtain⟨r',hr',hV'⟩:=lu parts parts' _ (v.cells.zipIdx.foldl (λcs (c,j)=>cs.setIfInBounds (off+j) c) cells') r h9
     ⟨by have:=hp.1;simpa using this,λi a v x y=>hp.2 (i+1) a v (by simpa using x) (by simpa using y)⟩
     (by
      rw[hst];refine(hc.take off).append (hvc.append ?_)
      have:off+v.cells.toList.length=off+size:=by simp[hsz]
      rw[this]
      exact hc.drop _)
    refine⟨r',?_,hV'⟩;simp only[Instr.fill,hpl];rw[ul (by simp;omega)];exact hr'
def mS{σ:Sg}{t:Tr AV}{ρ:Operand->Value}(hρ:∀x a,ev t x=some a->V σ a (ρ x)):∀(l:List (Nat×Operand)) (ps:List (Nat×AV)),gb t l=some ps->
 PL σ ps (l.map λ(i,x)=>(i,ρ x))
 | [],ps,h=>by simp[gb] at h;subst h;exact⟨rfl,λi a v x _=>by simp at x⟩
 | (k,x)::l,ps,h=>by
  simp only[gb,cc] at h
  cases h1:ev t x with
  | none=>simp[h1] at h
  | some a=>
   cases h2:l.mapM (λp=>(ev t p.2).map λv=>(p.1,v)) with
   | none=>simp[h1,h2] at h
   | some qs=>
    simp[h1,h2] at h;subst h;obtain⟨i1,i2⟩:=mS hρ l qs h2;refine⟨by simpa using i1,?_⟩;intro i a' v hx hy
    cases i with
    | zero=>simp at hx hy;subst hx;subst hy;exact⟨rfl,hρ x a h1⟩
    | succ i=>exact i2 i a' v (by simpa using hx) (by simpa using hy)
def iV{σ:Sg}{t:Tr AV}{ρ:Operand->Value}(hρ:∀x a,ev t x=some a->V σ a (ρ x)):∀(l:List Operand) (aS:List AV),nO t l=some aS->VL σ aS (l.map ρ)
 | [],aS,h=>by simp[nO] at h;subst h;exact .nil
 | x::l,aS,h=>by
  simp only[nO,cc] at h
  cases h1:ev t x with
  | none=>simp[h1] at h
  | some a=>
   cases h2:l.mapM (ev t) with
   | none=>simp[h1,h2] at h
   | some bs=>simp[h1,h2] at h;subst h;exact .cons (hρ x a h1) (iV hρ l bs h2)
def kj{P:Program}{w:World}{α β:Type}{f:α->Sem β}{g:α->β}:∀(l:List α),(∀x∈l,(f x).run P w=.ok (g x) w)->(l.mapM f).run P w=.ok (l.map g) w
 | [],_=>by simp
 | x::l,h=>by
  rw[cc];simp only[Sem.run_bind,h x (by simp),Result.andThen_ok,kj l (λy hy=>h y (by simp[hy])),Sem.run_pure,dc]
def pH{P:Program}{w:World}{α β:Type}{f:α->Sem β}{g:α->β}(l:Array α)(h:∀x∈l.toList,(f x).run P w=.ok (g x) w):(l.mapM f).run P w=.ok (l.map g) w:=by
 have e:l.mapM f=Functor.map List.toArray (l.toList.mapM f):=by
  obtain⟨l⟩:=l;exact List.mapM_toArray
 rw[e,Sem.run_map,kj l.toList h];show Result.ok (l.toList.map g).toArray w=_;obtain⟨l⟩:=l;simp
def xl{P:Program}{σ:Sg}{w:World}{t:TypeId}{parts:List (Nat×AV)}{parts':Array (Nat×Value)}{r:AV}(h:mD P t parts=some r)
 (hp:PL σ parts parts'.toList):
 ∃v,(Instr.build t parts').run P w=.ok v w/\V σ r v:=by
 unfold mD at h
 cases hz:bT P t with
 | none=>simp[hz] at h
 | some z=>
  simp only[hz,ac] at h;obtain⟨zv,hzr,hzV,_⟩:=dV (w:=w) (σ:=σ) hz;split at h
  ·rename_i fs hu;obtain⟨hall,h9⟩:=aw h
   cases hf:fb (mT P fs) z.cells parts with
   | none=>simp[hf] at h9
   | some cs=>
    simp only[hf,af,Option.some.injEq] at h9;subst h9;obtain⟨r',hr',hV⟩:=lu parts parts'.toList z.cells zv.cells cs hf hp hzV.cells
    have hsz:∀f∈fs.toList,(do pure (f.offset,<-sizeOf f.type):Sem (Nat×Nat)).run P w=.ok (f.offset,(bn P f.type).getD 0) w:=by
     intro f hf';have:=all_eq_true.1 hall f hf'
     cases hs:bn P f.type with
     | none=>simp[hs] at this
     | some n=>simp[aT hs]
    have hpl:(λi=>(fs.map λf=>(f.offset,(bn P f.type).getD 0))[i]?)=mT P fs:=by
     funext i;simp only[mT,Array.getElem?_map]
     cases hfi:fs[i]? with
     | none=>rfl
     | some f=>
      simp only[af,ac]
      have hmem:f∈fs.toList:=by simpa using Array.mem_of_getElem? hfi
      have:=all_eq_true.1 hall f hmem
      cases hs:bn P f.type with
      | none=>simp[hs] at this
      | some n=>simp
    refine⟨.agg r',?_,.oz hV⟩;simp only[Instr.build,Sem.run_bind,hzr,Result.andThen_ok,aA hu,pH fs hsz];simp only[hpl,hr',Sem.run_pure]
  ·rename_i n e hu
   cases hs:bn P e with
   | none=>simp[hs] at h
   | some s=>
    simp only[hs,ac] at h
    cases hf:fb (λi=>some (i*s,s)) z.cells parts with
    | none=>simp[hf] at h
    | some cs=>
     simp only[hf,af,Option.some.injEq] at h;subst h;obtain⟨r',hr',hV⟩:=lu parts parts'.toList z.cells zv.cells cs hf hp hzV.cells;refine⟨.agg r',?_,.oz hV⟩;simp only[Instr.build,Sem.run_bind,hzr,Result.andThen_ok,aA hu,aT hs,hr',Sem.run_pure]
  ·simp at h
def dn(z:List AV):∀n,(rep z n).length=n*z.length
 | 0=>by simp[rep]
 | n+1=>by simp[rep,dn z n,d9];omega
def Ad(z:List AV)(hz:0<z.length):∀(n i:Nat),i<n*z.length->(rep z n)[i]?=z[i%z.length]?
 | 0,i,h=>by simp at h
 | n+1,i,h=>by
  simp only[rep,ba];by_cases hi:i<z.length
  ·rw[t8 hi,Nat.mod_eq_of_lt hi]
  ·rw[ul hi,Ad z hz n _ (by rw[d9] at h;omega)];rw[Nat.mod_eq_sub_mod (a:=i) (by omega)]
def sS{σ:Sg}{z:List AV}{zv:Array Value}(h:VL σ z zv.toList)(hz:0<z.length)(n:Nat):VL σ (rep z n) ((ct (n*z.length)).map λi=>zv[i%z.length]!).toList:=by
 refine⟨by simp[dn],?_⟩;intro i a v ha hv
 have hi:i<n*z.length:=by
  rcases be i (n*z.length) with h | h
  ·exact h
  ·rw[ap (by rw[dn];omega)] at ha;simp at ha
 rw[Ad z hz n i hi] at ha;simp only[Array.toList_map,Array.toList_range,b5,b8 hi,af,Option.some.injEq] at hv;obtain⟨u,hu,hV⟩:=h.get ha
 have:zv[i%z.length]?=some u:=by simpa using hu
 rw[<-hv];rw[Array.getElem!_eq_getD,Array.getD_eq_getD_getElem?,this];exact hV
def nM{P:Program}{σ:Sg}{w:World}{t:TypeId}{len s:Nat}{cs:List AV}{parts:List (Nat×AV)}{parts':Array (Nat×Value)}(h:dK P t len parts=some (s,cs))
 (hp:PL σ parts parts'.toList):
 ∃(c:Array Value) (e:TypeId),(Instr.buildSlice t len parts').run P w=.ok (.slice (some ⟨w.heap.size,0,none⟩) len len) { w with heap:=w.heap.push (.cells c e (0,0)) }/\VL σ cs c.toList/\cs.length=len*s:=by
 unfold dK at h;split at h
 ·rename_i e hu
  cases hs:bn P e with
  | none=>simp[hs] at h
  | some s'=>
   cases hz:bT P e with
   | none=>simp[hs,hz] at h
   | some z=>
    simp only[hs,hz,ac] at h;obtain⟨hc,h9⟩:=aw h;simp only[ad] at hc;obtain⟨hle,hlen,hpos⟩:=hc;have hle:=eu hle;have hlen:=bD hlen
    have hpos:s'≠0:=by intro e0;subst e0;simp at hpos
    cases hf:fb (λi=>some (i*s',s')) (rep z.cells len) parts with
    | none=>simp[hf] at h9
    | some cs'=>
     simp only[hf,af,Option.some.injEq,Prod.mk.injEq] at h9;obtain⟨rfl,rfl⟩:=h9;obtain⟨zv,hzr,hzV,_⟩:=dV (w:=w) (σ:=σ) hz
     have hzl:zv.cells.size=s':=by have:=hzV.cells.1;simp at this;omega
     have hrep:=sS hzV.cells (by omega) len;rw[hlen] at hrep;obtain⟨r',hr',hV⟩:=lu parts parts'.toList (rep z.cells len) ((ct (len*s')).map λi=>zv.cells[i%s']!) cs' hf hp hrep;refine⟨r',e,?_,hV,?_⟩
     ·simp only[Instr.buildSlice,Sem.run_bind,aA hu,Result.andThen_ok,aT hs];rw[ul (by simpa using hle)];by_cases h0:len*s'=0
      ·simp only[h0,if_true,Sem.run_bind,Sem.run_pure,Result.andThen_ok]
       have he:((ct 0).map λi=>(#[]:Array Value)[i%(#[]:Array Value).size]!)=((ct (len*s')).map λi=>zv.cells[i%s']!):=by rw[h0];simp
       rw[he,hr'];simp[newRow]
      ·simp only[h0,if_false,Sem.run_bind,hzr,Result.andThen_ok,Sem.run_pure,hzl,hr'];simp[newRow]
     ·have:∀(ps:List (Nat×AV)) (a b:List AV),fb (λi=>some (i*s',s')) a ps=some b->b.length=a.length:=by
       intro ps
       induction ps with
       | nil=>intro a b hb;simp[fb] at hb;rw[hb]
       | cons p ps ih=>
        intro a b hb;obtain⟨i,v⟩:=p;simp only[fb] at hb;obtain⟨hc,hb⟩:=aw hb;simp only[ad] at hc;have e1:=bD hc.1;have e2:=eu hc.2;rw[ih _ _ hb];simp;omega
      rw[this _ _ _ hf,dn,hlen]
 ·simp at h
def fw{P:Program}{σ:Sg}{w:World}{x:AV}{v:Value}{n:Nat}(h:bN x=some n)(hv:V σ x v):∃k,v=.int k (n:Int)/\(asIntOf v).run P w=.ok (k,(n:Int)) w:=by
 unfold bN at h;split at h
 ·simp only[Option.some.injEq] at h;subst h;cases hv;exact⟨_,rfl,rfl⟩
 ·simp at h
def oY{P:Program}{σ:Sg}{w:World}{s:TypeId}{x:AV}{v:Value}{f:Nat}{r:AV}(h:ew P s x f=some r)(hv:V σ x v):∃z,(Instr.fieldAt s v f).run P w=.ok z w/\V σ r z:=by
 unfold ew at h;split at h
 ·rename_i fs id off hu
  cases hf:fs[f]? with
  | none=>simp[hf] at h
  | some fd=>
   simp only[hf,ac] at h
   cases hs:bn P fd.type with
   | none=>simp[hs] at h
   | some n=>
    simp only[hs,ac] at h;cases hn:beq n 0
    ·rw[hn,ah] at h;simp only[Option.some.injEq] at h;subst h;have hn0:n≠0:=dT hn
     cases hv with
     | ptr hp=>
      refine⟨_,?_,.ptr (off:=off+fd.offset) hp⟩;simp only[Instr.fieldAt,Sem.run_bind,aA hu,Result.andThen_ok,hf,Instr.sureAddr,Sem.run_pure,fieldPlace,aT hs,hn0,if_false,dJ,bw]
    ·simp[hn] at h
 ·simp at h
def xu{P:Program}{σ:Sg}{w:World}{s:TypeId}{x:AV}{v:Value}{f:Nat}{r:AV}(h:mH P s x f=some r)(hv:V σ x v):∃z,(Instr.field s v f).run P w=.ok z w/\V σ r z:=by
 unfold mH at h;split at h
 ·rename_i fs cs hu
  cases hf:fs[f]? with
  | none=>simp[hf] at h
  | some fd=>
   simp only[hf,ac] at h;obtain⟨vs,rfl,hvs⟩:=hv.ie;obtain⟨z,hz,hV⟩:=eG (w:=w) hvs h;exact⟨z,by simp only[Instr.field,Sem.run_bind,aA hu,Result.andThen_ok,hf,asAgg,Sem.run_pure];exact hz,hV⟩
 ·simp at h
def pd{P:Program}{σ:Sg}{w:World}{t:TypeId}{x i:AV}{v u:Value}{r:AV}(h:fk P t x i=some r)(hv:V σ x v)(hi:V σ i u):∃z,(Instr.indexAt t v u).run P w=.ok z w/\V σ r z:=by
 unfold fk at h
 cases hn:bN i with
 | none=>simp[hn] at h
 | some n=>
  simp only[hn,ac] at h;obtain⟨k,rfl,hk⟩:=fw (P:=P) (w:=w) hn hi;split at h
  ·rename_i m e id off hu
   cases hs:bn P e with
   | none=>simp[hs] at h
   | some s=>
    simp only[hs,ac] at h;obtain⟨hlt,h9⟩:=aw h;have hlt:=df hlt;simp only[Option.some.injEq] at h9;subst h9
    cases hv with
    | ptr hp=>
     refine⟨_,?_,.ptr (off:=off+n*s) hp⟩;simp only[Instr.indexAt,Sem.run_bind,hk,Result.andThen_ok,aA hu,Instr.sureAddr,Sem.run_pure]
     have:(0:Int)<=(n:Int)/\(n:Int)<(m:Int):=by omega
     cases hm:decide (m<=1)<;>simp[this,aT hs,dJ,bw]
  ·rename_i e id off len es c hu
   cases hs:bn P e with
   | none=>simp[hs] at h
   | some s=>
    simp only[hs,ac] at h;obtain⟨hc,h9⟩:=aw h;simp only[ad] at hc;have hlt:=df hc.1;have:=bD hc.2;subst this;simp only[Option.some.injEq] at h9;subst h9
    cases hv with
    | slice hp hl hr hcap ha=>
     have ha:=ha.resolve_right (by omega);subst ha;refine⟨_,?_,.ptr (off:=off+n*s) hp⟩;simp only[Instr.indexAt,Sem.run_bind,hk,Result.andThen_ok,aA hu,Sem.run_pure]
     have:(0:Int)<=(n:Int)/\(n:Int)<(len:Int):=by omega
     cases hm:decide (len<=1)<;>simp[this,aT hs,dJ,bw]
  ·simp at h
def xB{P:Program}{σ:Sg}{w:World}{t:TypeId}{x i:AV}{v u:Value}{r:AV}(h:mM P t x i=some r)(hv:V σ x v)(hi:V σ i u):∃z,(Instr.index t v u).run P w=.ok z w/\V σ r z:=by
 unfold mM at h
 cases hn:bN i with
 | none=>simp[hn] at h
 | some n=>
  simp only[hn,ac] at h;obtain⟨k,rfl,hk⟩:=fw (P:=P) (w:=w) hn hi;split at h
  ·rename_i m e cs hu
   cases hs:bn P e with
   | none=>simp[hs] at h
   | some s=>
    simp only[hs,ac] at h;obtain⟨hlt,h9⟩:=aw h;have hlt:=df hlt;obtain⟨vs,rfl,hvs⟩:=hv.ie;obtain⟨z,hz,hV⟩:=eG (w:=w) hvs h9;refine⟨z,?_,hV⟩
    have:(0:Int)<=(n:Int)/\(n:Int)<(m:Int):=by omega
    simp only[Instr.index,Sem.run_bind,hk,Result.andThen_ok,aA hu,this,and_self,if_true,aT hs,bt,hz]
  ·rename_i s hu
   cases hb:s[n]? with
   | none=>simp[hb] at h
   | some b=>
    simp only[hb,af,Option.some.injEq] at h;subst h
    cases hv with
    | @str _ bs hs=>
     rw[<-hs,b5] at hb
     cases hb':bs.data.toList[n]? with
     | none=>simp[hb'] at hb
     | some c=>
      simp only[hb',af,Option.some.injEq] at hb;subst hb;refine⟨.int .u8 c.toNat,?_,.int _ _⟩
      have hlt:n<bs.size:=by
       rcases be n bs.data.toList.length with h | h
       ·simpa using h
       ·simp[ap h] at hb'
      have hg:bs[n]?=some c:=by
       rw[getElem?_pos bs n hlt]
       have:bs.data.toList[n]?=some bs.data[n]:=by simp
       rw[this] at hb';exact hb'
      simp only[Instr.index,Sem.run_bind,hk,Result.andThen_ok,aA hu];rw[t8 (by omega),bt,hg];rfl
  ·simp at h
def VO(σ:Sg)(x:Option AV)(v:Option Value):Prop:=match x,v with
 | none,none=>True
 | some x,some v=>V σ x v
 | _,_=>False
def cO{P:Program}{σ:Sg}{w:World}{x:AV}{v:Value}{n y:Nat}(h:bN x=some n)(hv:V σ x v)(hle:n<=y)(code:BoundsCode):(Instr.sliceBound v y code).run P w=.ok n w:=by
 obtain⟨k,rfl,hk⟩:=fw (P:=P) (w:=w) h hv;simp only[Instr.sliceBound,Sem.run_bind,hk,Result.andThen_ok];rw[t8 (by omega)];simp
def Fu(isS:Bool)(len c:Nat)(hi:Option Value):Sem Nat:=match hi with
 | some v=>Instr.sliceBound v c (if isS then .sliceAcap else .sliceAlen)
 | none=>pure len
def Fp(h:Nat)(lo:Option Value):Sem Nat:=match lo with
 | some v=>Instr.sliceBound v h .sliceB
 | none=>pure 0
def pL{P:Program}{w:World}(isS:Bool)(len c:Nat)(lo hi:Option Value):
 (Instr.sliceBounds isS len c lo hi none).run P w=((Fu isS len c hi).run P w).andThen λh w1=>((Fp h lo).run P w1).andThen λl w2=>.ok (l,h,c) w2:=by
 cases hi<;>cases lo<;>simp[Instr.sliceBounds,Fu,Fp]
def iR{P:Program}{σ:Sg}{w:World}{len c:Nat}{cap:Option Nat}{lo hi mx:Option AV}{lo' hi' mx':Option Value}{l h:Nat}{m:Option Nat}(isS:Bool)
 (hb:br len cap lo hi mx=some (l,h,m)) (hlen:len<=c) (hcap:∀x,cap=some x->x=c) (h1:VO σ lo lo') (h2:VO σ hi hi') (h3:VO σ mx mx'):
 ∃m',(Instr.sliceBounds isS len c lo' hi' mx').run P w=.ok (l,h,m') w/\l<=h/\h<=m'/\m'<=c/\(∀x,m=some x->x=m'):=by
 have fitsle:∀n,fitsA len cap n=true->n<=c:=by
  intro n hn;simp only[fitsA,cl] at hn
  rcases hn with hn | hn
  ·have:=eu hn;omega
  ·cases cap with
   | none=>simp at hn
   | some x=>have:=hcap x rfl;have:=eu hn;omega
 unfold br at hb
 cases mx with
 | some v3=>
  cases mx' with
  | none=>exact h3.elim
  | some u3=>
   simp only at hb
   cases hm:bN v3 with
   | none=>simp[hm] at hb
   | some m0=>
    simp only[hm,ac] at hb;obtain⟨hf,hb⟩:=aw hb;have hmc:=fitsle _ hf
    cases hi with
    | none=>simp at hb
    | some v2=>
     cases hi' with
     | none=>exact h2.elim
     | some u2=>
      simp only at hb
      cases hh:bN v2 with
      | none=>simp[hh] at hb
      | some h0=>
       simp only[hh,ac] at hb;obtain⟨hhm,hb⟩:=aw hb;have hhm:=eu hhm
       cases lo with
       | none=>
        cases lo' with
        | some _=>exact h1.elim
        | none=>
         simp only[Option.some.injEq,Prod.mk.injEq] at hb;obtain⟨rfl,rfl,rfl⟩:=hb;refine⟨m0,?_,by omega,hhm,hmc,λx hx=>by simpa using hx.symm⟩;simp only[Instr.sliceBounds,Sem.run_bind,cO hm h3 hmc,Result.andThen_ok,cO hh h2 hhm,Sem.run_pure]
       | some v1=>
        cases lo' with
        | none=>exact h1.elim
        | some u1=>
         simp only at hb
         cases hl:bN v1 with
         | none=>simp[hl] at hb
         | some l0=>
          simp only[hl,ac] at hb;obtain⟨hlh,hb⟩:=aw hb;have hlh:=eu hlh;simp only[Option.some.injEq,Prod.mk.injEq] at hb;obtain⟨rfl,rfl,rfl⟩:=hb;refine⟨m0,?_,hlh,hhm,hmc,λx hx=>by simpa using hx.symm⟩;simp only[Instr.sliceBounds,Sem.run_bind,cO hm h3 hmc,Result.andThen_ok,cO hh h2 hhm,cO hl h1 hlh,Sem.run_pure]
 | none=>
  cases mx' with
  | some _=>exact h3.elim
  | none=>
   simp only at hb
   have hh:∃h0,gT len cap hi=some h0/\h0<=c/\
    (Fu isS len c hi').run P w=.ok h0 w:=by
    cases hi with
    | none=>
     cases hi' with
     | some _=>exact h2.elim
     | none=>exact⟨len,rfl,hlen,rfl⟩
    | some v2=>
     cases hi' with
     | none=>exact h2.elim
     | some u2=>
      cases hn:bN v2 with
      | none=>simp[gT,hn] at hb
      | some h0=>
       cases hf:fitsA len cap h0 with
       | false=>simp[gT,hn,hf] at hb
       | true=>exact⟨h0,by simp[gT,hn,hf],fitsle _ hf,cO hn h2 (fitsle _ hf) _⟩
   obtain⟨h0,e1,e2,e3⟩:=hh;simp only[e1,ac] at hb
   have e4:(Instr.sliceBounds isS len c lo' hi' none).run P w=((Fp h0 lo').run P w).andThen λl w2=>.ok (l,h0,c) w2:=by
    rw[pL,e3,Result.andThen_ok]
   cases lo with
   | none=>
    cases lo' with
    | some _=>exact h1.elim
    | none=>
     simp only[Option.some.injEq,Prod.mk.injEq] at hb;obtain⟨rfl,rfl,rfl⟩:=hb;exact⟨c,by rw[e4];rfl,by omega,e2,al _,hcap⟩
   | some v1=>
    cases lo' with
    | none=>exact h1.elim
    | some u1=>
     simp only at hb
     cases hl:bN v1 with
     | none=>simp[hl] at hb
     | some l0=>
      simp only[hl,ac] at hb;obtain⟨hlh,hb⟩:=aw hb;have hlh:=eu hlh;simp only[Option.some.injEq,Prod.mk.injEq] at hb;obtain⟨rfl,rfl,rfl⟩:=hb;refine⟨c,?_,hlh,e2,al _,hcap⟩;rw[e4];simp only[Fp,cO hl h1 hlh,Result.andThen_ok]
def pe{m:Option Nat}{l m' x:Nat}(hm:∀x,m=some x->x=m')(h:isSub m l=some x):x=m'-l:=by
 cases m with
 | none=>simp[isSub] at h
 | some y=>simp[isSub] at h;rw[<-h,hm y rfl]
def xV{P:Program}{σ:Sg}{h:H}{w:World}(hr:HR σ h w){t:TypeId}{x r:AV}{v:Value}{lo hi mx:Option AV}{lo' hi' mx':Option Value}(hs:mW P h t x lo hi mx=some r)
 (hv:V σ x v) (h1:VO σ lo lo') (h2:VO σ hi hi') (h3:VO σ mx mx'):∃z,(Instr.sliceAt t v lo' hi' mx').run P w=.ok z w/\V σ r z:=by
 unfold mW at hs;split at hs
 ·rename_i n e id off hu
  cases hsz:bn P e with
  | none=>simp[hsz] at hs
  | some s=>
   simp only[hsz,ac] at hs
   cases hb:br n (some n) lo hi mx with
   | none=>simp[hb] at hs
   | some q=>
    obtain⟨l,hh,m⟩:=q;simp only[hb,ac] at hs;obtain⟨m',hrun,a1,a2,a3,a4⟩:=iR (P:=P) (w:=w) false hb (al _) (λx hx=>by simpa using hx.symm) h1 h2 h3
    cases m with
    | none=>simp at hs
    | some m=>
     have:=a4 m rfl;subst this;simp only at hs;split at hs
     ·rename_i cs f ho;obtain⟨hle,hs⟩:=aw hs;have hle:=eu hle;simp only[Option.some.injEq] at hs;subst hs
      cases hv with
      | ptr hp=>
       obtain⟨q,c,e',hq,b1,b2,b3,b4⟩:=hr.cells ho;rw[hp] at hq;cases hq;refine⟨_,by simp only[Instr.sliceAt,Sem.run_bind,aA hu,Result.andThen_ok,Instr.sureAddr,Sem.run_pure,hrun,aT hsz];rfl,?_⟩
       have hmul:l*s+(m-l)*s=m*s:=by rw[<-ce];congr 1;omega
       have hmn:m*s<=n*s:=b6 _ a3;refine .slice hp (by omega) (by omega) (λx hx=>by simpa using hx.symm) ?_;by_cases hml:m=l
       ·right;omega
       ·left;rw[ul hml,dJ,bw]
     ·simp at hs
 ·rename_i s hu
  cases mx with
  | some _=>simp at hs
  | none=>
   cases mx' with
   | some _=>exact h3.elim
   | none=>
    simp only at hs
    cases hb:br s.length (some s.length) lo hi none with
    | none=>simp[hb] at hs
    | some q=>
     obtain⟨l,hh,m⟩:=q;simp only[hb,af,Option.some.injEq] at hs;subst hs
     cases hv with
     | @str _ bs hbs=>
      have hsize:=lY hbs;rw[<-hsize] at hb;obtain⟨m',hrun,a1,a2,a3,a4⟩:=iR (P:=P) (w:=w) (mx':=none) false hb (al _) (λx hx=>by simpa using hx.symm) h1 h2 trivial;refine⟨.string (bs.extract l hh),?_,.str ?_⟩
      ·simp only[Instr.sliceAt,Sem.run_bind,aA hu,Result.andThen_ok,Instr.slice,Option.isSome_none,ay,if_false,hrun,Sem.run_pure]
      ·rw[<-hbs]
       have:(bs.extract l hh).data.toList=(bs.data.toList.drop l).take (hh-l):=by
        rw[ByteArray.data_extract];simp[List.extract_eq_take_drop]
       rw[this];simp
 ·rename_i e o len es cap hu
  cases hsz:bn P e with
  | none=>simp[hsz] at hs
  | some s=>
   simp only[hsz,ac] at hs
   cases hb:br len cap lo hi mx with
   | none=>simp[hb] at hs
   | some q=>
    obtain⟨l,hh,m⟩:=q;simp only[hb,ac] at hs
    cases o with
    | none=>
     simp only[Option.some.injEq] at hs;subst hs
     cases hv with
     | eb hl0=>
      subst hl0;obtain⟨m',hrun,a1,a2,a3,a4⟩:=iR (P:=P) (w:=w) (c:=0) true hb (al _) (λx hx=>by simpa using hx.symm) h1 h2 h3
      have:m'=0:=by omega
      subst this
      have:hh=0:=by omega
      subst this
      have:l=0:=by omega
      subst this;exact⟨_,by simp only[Instr.sliceAt,Sem.run_bind,aA hu,Result.andThen_ok,Instr.slice,hrun,aT hsz,Sem.run_pure,if_true],.eb rfl⟩
    | some q=>
     obtain⟨id,off⟩:=q;obtain⟨hes,hs9⟩:=aw hs;clear hs;have:=bD hes;subst this;simp only[Option.some.injEq] at hs9;subst hs9
     cases hv with
     | @slice _ _ _ _ _ a p c hp hl hroom hcap ha=>
      obtain⟨m',hrun,a1,a2,a3,a4⟩:=iR (P:=P) (w:=w) true hb hl hcap h1 h2 h3;refine⟨_,by simp only[Instr.sliceAt,Sem.run_bind,aA hu,Result.andThen_ok,Instr.slice,hrun,aT hsz,Sem.run_pure];rfl,?_⟩
      have hmul:l*s+(m'-l)*s=m'*s:=by rw[<-ce];congr 1;omega
      have hmn:m'*s<=c*s:=b6 _ a3;by_cases hml:m'=l
      ·rw[t8 hml];exact .slice hp (by omega) (by omega) (λx hx=>pe a4 hx) (.inr (by omega))
      ·rw[ul hml];have ha:=ha.resolve_right (by omega);subst ha;exact .slice hp (by omega) (by omega) (λx hx=>pe a4 hx) (.inl (by show Addr.add _ _=_;rw[dJ,bw]))
 ·simp at hs
def wrap_small(n:Nat)(h:n<=1000000000000):IntKind.i64.wrap (n:Int)=(n:Int):=by
 have h1:decide (xe .i64<=(n:Int))=true:=ut (show(-9223372036854775808:Int)<=(n:Int) by omega);have h2:decide ((n:Int)<=xd .i64)=true:=ut (show(n:Int)<=(9223372036854775807:Int) by omega);rw[<-dS];unfold bR;rw[dj,dj,h1,h2];rfl
def pw{P:Program}{σ:Sg}{w:World}{t:TypeId}{l c:AV}{l' c':Value}{n s m:Nat}{cs:List AV}(h:dO P t l c=some (n,s,m,cs))(hl:V σ l l')(hc:V σ c c'):
 ∃(a:Array Value) (e:TypeId),(Instr.makeSlice t l' c').run P w=.ok (.slice (some ⟨w.heap.size,0,none⟩) n m) { w with heap:=w.heap.push (.cells a e (0,0)) }/\VL σ cs a.toList/\n<=m/\cs.length=m*s:=by
 unfold dO at h;split at h
 ·rename_i e hu
  cases h1:bN l with
  | none=>simp[h1] at h
  | some l0=>
   cases h2:bN c with
   | none=>simp[h1,h2] at h
   | some c0=>
    cases hi:P.info? e with
    | none=>simp[h1,h2,hi] at h
    | some i=>
     cases hz:bT P e with
     | none=>simp[h1,h2,hi,hz] at h
     | some z=>
      simp only[h1,h2,hi,hz,ac] at h;obtain⟨hcd,h⟩:=aw h;simp only[ad] at hcd;obtain⟨q1,q2,q3,q4,q5⟩:=hcd;have q1:=eu q1;have q2:=eu q2;have q3:=eu q3;have q4:=bD q4
      have q5:i.size≠0:=by intro e0;rw[e0] at q5;simp at q5
      simp only[Option.some.injEq,Prod.mk.injEq] at h;obtain⟨rfl,rfl,rfl,rfl⟩:=h;obtain⟨k1,rfl,hk1⟩:=fw (P:=P) (w:=w) h1 hl;obtain⟨k2,rfl,hk2⟩:=fw (P:=P) (w:=w) h2 hc;obtain⟨zv,hzr,hzV,i',hi',hzi⟩:=dV (w:=w) (σ:=σ) hz;rw[hi] at hi';cases hi'
      have hzl:zv.cells.size=i.size:=by have:=hzV.cells.1;simp at this;omega
      have hrep:=sS hzV.cells (by omega) c0;rw[q4] at hrep;have w1:IntKind.i64.wrap (l0:Int)=(l0:Int):=wrap_small _ (by omega);have w2:IntKind.i64.wrap (c0:Int)=(c0:Int):=wrap_small _ (by omega)
      have hbc0:i.bytes*c0<=10000000000:=by have:=ca q3 q2;omega
      have hbc:(i.bytes:Int)*(c0:Int)<=10000000000:=by rw[<-ch];omega
      refine⟨_,e,?_,hrep,q1,by rw[dn,q4]⟩;simp only[Instr.makeSlice,Sem.run_bind,aA hu,Result.andThen_ok,asInt,hk1,hk2,Sem.run_pure,bI hi,w1,w2]
      have g1:¬((decide ((c0:Int)<0)||decide ((i.bytes:Int)*(c0:Int)>2^48))||decide ((l0:Int)<0)||decide ((l0:Int)>(c0:Int)))=true:=by
       simp only[cl,wp,not_or];refine⟨⟨⟨by omega,by omega⟩,by omega⟩,by omega⟩
      rw[ul g1];simp only[Sem.run_bind,run_askRoom,Result.andThen_ok,aT (show bn P e=some i.size by simp[bn,hi]),bt];by_cases h0:c0*i.size=0
      ·have hr0:ct 0=(#[]:Array Nat):=rfl;simp only[h0,if_true,Sem.run_bind,Sem.run_pure,Result.andThen_ok,newRow,run_newObj];simp[hr0]
      ·simp only[h0,if_false,Sem.run_bind,hzr,Result.andThen_ok,Sem.run_pure,newRow,run_newObj,hzl]
 ·simp at h
def gh:AO->Bool
 | .cells _ _=>true
 | .ro _=>true
 | _=>false
def bj{P:Program}{w:World}{r:Nat}{o:Obj}(h:w.heap[r]?=some o)(hn:∀c e f,o≠.cells c e f):(getObj r).run P w=.ok o w:=by
 simp only[getObj,Sem.run,h]
 try (split<;>simp_all)
 try (cases o<;>simp_all [Sem.run])
def cE{P:Program}{w:World}{r:Nat}{o o':Obj}(h:w.heap[r]?=some o)(hn:∀c e f,o≠.cells c e f):(setObj r o').run P w=.ok () { w with heap:=w.heap.setIfInBounds r o' }:=by
 simp only[setObj,Sem.run,h]
 try (split<;>simp_all)
 try (cases o<;>simp_all [Sem.run])
def HR.eX{σ:Sg}{h:H}{w:World}(hr:HR σ h w){id:Nat}{p:kR}{o o':AO}{ob:Obj}(ho:h.aD.get id=some o)(hc:gh o=false)(hc':gh o'=false)(hp:σ id=some p)
 (hor:OR σ o' p (some ob)):HR σ (h.set id o') { w with heap:=w.heap.setIfInBounds p.b ob }/\Ext σ σ h (h.set id o') w { w with heap:=w.heap.setIfInBounds p.b ob }:=by
 have hlt:=hr.lt ho hp;refine hr.update (o':=o') ho hp ?_ rfl ?_ ?_ ?_ (by simp) rfl rfl rfl (cj _ _).1 ?_ (λcs f e=>by subst e;simp[gh] at hc') (λcs e=>by subst e;simp[gh] at hc)
 ·intro j x hx;simp only[H.set,bU] at hx;split at hx
  ·rename_i e;cases hx;exact .inl ⟨e,rfl⟩
  ·rename_i hne;refine .inr ⟨hne,hx,?_⟩;intro q hq hb
   rcases hr.sep j id x o q p hne hx ho hq hp hb with⟨cs,cs',f,e1,e2⟩ | ⟨cs,cs',e1,e2⟩<;>(rw[e2] at hc;simp[gh] at hc)
 ·intro i cs f hi;simp only[H.set,bU] at hi;split at hi
  ·cases hi;simp[gh] at hc'
  ·exact hr.aX i cs f hi
 ·simp only[bi];simp only[if_true,hlt];exact hor
 ·intro b hb;simp only[bi];rw[ul (λe=>hb e.symm)]
 ·intro j hj hjn;have:=cj h.low id;simp only[H.set] at hj ⊢;rw[aJ _ _ (by omega)]
def HR.map{σ:Sg}{h:H}{w:World}(hr:HR σ h w){id:Nat}{p:kR}{es:List (AV×AV×Nat)}{c:Nat}(hm:h.mapOf id=some (es,c))(hp:σ id=some p):
 h.aD.get id=some (.map es c)/\∃es':Array MapEntry,w.heap[p.b]?=some (.map es' c)/\EL σ es es'.toList:=by
 unfold H.mapOf at hm;split at hm
 ·rename_i es0 c0 ho;simp only[Option.some.injEq,Prod.mk.injEq] at hm;obtain⟨rfl,rfl⟩:=hm;obtain⟨q,hq,es',h1,h2,h3⟩:=hr.obj id _ ho;rw[hp] at hq;cases hq;exact⟨ho,es',h1,by simpa using h2,λi e m he hm=>h3 i e m he (by simpa using hm)⟩
 ·simp at hm
def EL.get{σ:Sg}{es:List (AV×AV×Nat)}{l:List MapEntry}(h:EL σ es l){i:Nat}{e:AV×AV×Nat}(he:es[i]?=some e):∃m,l[i]?=some m/\ER σ e m:=by
 have hi:i<es.length:=by
  rcases be i es.length with h | h
  ·exact h
  ·simp[ap h] at he
 have hl:i<l.length:=h.1▸hi;exact⟨l[i],ax hl,h.2 i e _ he (ax hl)⟩
def EL.append{σ:Sg}{es fs:List (AV×AV×Nat)}{l k:List MapEntry}(h:EL σ es l)(g:EL σ fs k):EL σ (es++fs) (l++k):=by
 refine⟨by simp[h.1,g.1],?_⟩;intro i x y hx hy;rw[ba] at hx hy;have e:=h.1;by_cases hi:i<es.length
 ·rw[t8 hi] at hx;rw[t8 (by omega)] at hy;exact h.2 i x y hx hy
 ·rw[ul hi] at hx;rw[ul (by omega),<-e] at hy;exact g.2 _ x y hx hy
def EL.one{σ:Sg}{e:AV×AV×Nat}{m:MapEntry}(h:ER σ e m):EL σ [e] [m]:=
 ⟨rfl,λi x y hx hy=>by
  cases i with
  | zero=>simp at hx hy;subst hx;subst hy;exact h
  | succ i=>simp at hx⟩
def lT(x:AV×AV×Nat):∀(es:List (AV×AV×Nat)) (i:Nat),(setAt x es i).length=es.length
 | [],i=>by simp[setAt]
 | e::es,0=>by simp[setAt]
 | e::es,i+1=>by simp[setAt,lT x es i]
def rO(x:AV×AV×Nat):∀(es:List (AV×AV×Nat)) (i j:Nat),i<es.length->(setAt x es i)[j]?=if j=i then some x else es[j]?
 | [],i,j,h=>by simp at h
 | e::es,0,j,h=>by cases j<;>simp[setAt]
 | e::es,i+1,j,h=>by
  cases j with
  | zero=>simp[setAt]
  | succ j=>simp only[setAt,bb,rO x es i j (by simpa using h)];by_cases hj:j=i<;>simp[hj]
def EL.set{σ:Sg}{es:List (AV×AV×Nat)}{l:Array MapEntry}(h:EL σ es l.toList){i:Nat}{x:AV×AV×Nat}{f:MapEntry->MapEntry}(hi:i<es.length)(hf:∀m,l.toList[i]?=some m->ER σ x (f m)):
 EL σ (setAt x es i) (l.modify i f).toList:=by
 refine⟨by rw[lT];have:=h.1;simpa using this,?_⟩;intro j e m he hm;rw[rO x es i j hi] at he
 have hm':(l.modify i f)[j]?=some m:=by rw[<-Array.getElem?_toList];exact hm
 rw[b7] at hm';by_cases hj:j=i
 ·subst hj;rw[t8 rfl] at he hm';simp only[Option.some.injEq] at he;subst he
  cases hl:l[j]? with
  | none=>simp[hl] at hm'
  | some m0=>
   simp only[hl,af,Option.some.injEq] at hm';subst hm';exact hf m0 (by simpa using hl)
 ·rw[ul hj] at he;rw[ul (λe=>hj e.symm)] at hm';exact h.2 j e m he (by simpa using hm')
def fQ{P:Program}{t k e:TypeId}(h:bP P t=some (k,e)):P.underlying t=some (.map k e):=by
 unfold bP at h;split at h
 ·rename_i h1;simp only[Option.some.injEq,Prod.mk.injEq] at h;obtain⟨rfl,rfl⟩:=h;exact h1
 ·simp at h
def sD{P:Program}{t:TypeId}{k:AV}(h:nQ P t k=true):∃d,P.underlying t=some d:=by
 simp only[nQ,uD] at h
 cases hu:P.underlying t with
 | none=>simp[hu] at h
 | some d=>exact⟨d,rfl⟩
def vd{P:Program}{σ:Sg}{h:H}{w:World}(hr:HR σ h w){t:TypeId}{x k r:AV}{v u:Value}{ok:Bool}(hl:jS P h t x k ok=some r)(hv:V σ x v)(hk:V σ k u):
 ∃z,(Instr.lookup t v u ok).run P w=.ok z w/\V σ r z:=by
 unfold jS at hl
 cases hm:bP P t with
 | none=>simp[hm] at hl
 | some q=>
  obtain⟨kt,et⟩:=q;simp only[hm,ac] at hl;obtain⟨hka,hl9⟩:=aw hl;clear hl;have hu:=fQ hm;obtain⟨kd,hkd⟩:=sD hka
  have main:∀(es:List (AV×AV×Nat)) (es':Array MapEntry),EL σ es es'.toList->
   (∀(r0:Option (Nat×Value)) (z:Value) (b:Bool),(Instr.findKey kt u es'.toList).run P w=.ok r0 w->
    (match r0 with | some q=>z=q.2/\b=true | none=>(zeroValue et).run P w=.ok z w/\b=false)->
    (Instr.lookup t v u ok).run P w=.ok (if ok then .tuple #[z,.bool b] else z) w)->
   ((
    dN P kt k es 0).bind λr=>
    ((
     match r with
     | some i=>(es[i]?).map λe=>(e.2.1,true)
     | none=>(bT P et).map λz=>(z,false):Option (AV×Bool))).map λ(v,b)=>cond ok (AV.aO [v,.bool b]) v)=some r->
   ∃z,(Instr.lookup t v u ok).run P w=.ok z w/\V σ r z:=by
   intro es es' hel hget h
   cases hf:dN P kt k es 0 with
   | none=>simp[hf] at h
   | some r0=>
    simp only[hf,ac] at h;have hfind:=gR (w:=w) hkd hk hf hel
    have fin:∀(a:AV) (b:Bool) (z:Value),V σ a z->(cond ok (AV.aO [a,.bool b]) a)=r->V σ r (if ok then .tuple #[z,.bool b] else z):=by
     intro a b z hz e;subst e;cases ok
     ·exact hz
     ·exact .dk (.cons hz (.cons (.bool b) .nil))
    cases r0 with
    | some i=>
     cases he:es[i]? with
     | none=>simp[he] at h
     | some e=>
      simp only[he,af,Option.some.injEq] at h;obtain⟨m,hm1,hm2⟩:=hel.get he;refine⟨_,hget _ m.val true hfind ?_,fin _ _ _ hm2.2.1 h⟩;simp[found,hm1]
    | none=>
     cases hz:bT P et with
     | none=>simp[hz] at h
     | some z=>
      simp only[hz,af,Option.some.injEq] at h;obtain⟨zv,hzr,hzV,_⟩:=dV (w:=w) (σ:=σ) hz;exact⟨_,hget _ zv false hfind ⟨hzr,rfl⟩,fin _ _ _ hzV h⟩
  split at hl9
  ·cases hv;refine main [] #[] ⟨rfl,λi e m he _=>by simp at he⟩ ?_ hl9;intro r0 z b hf hz;simp only[Instr.lookup,Sem.run_bind,aA hu,Result.andThen_ok,Sem.run_pure,eS hka hk,hf]
   cases r0 with
   | some q=>obtain⟨rfl,rfl⟩:=hz;rfl
   | none=>obtain⟨hz,rfl⟩:=hz;simp only[Sem.run_bind,hz,Result.andThen_ok,Sem.run_pure]
  ·rename_i id
   cases hv with
   | map hp=>
    cases hmo:h.mapOf id with
    | none=>simp[hmo] at hl9
    | some q=>
     obtain⟨es,c⟩:=q;simp only[hmo,af,ac] at hl9;obtain⟨_,es',h1,h2⟩:=hr.map hmo hp;refine main es es' h2 ?_ hl9;intro r0 z b hf hz;simp only[Instr.lookup,Sem.run_bind,aA hu,Result.andThen_ok,bj h1 (by simp),Sem.run_pure,eS hka hk,hf]
     cases r0 with
     | some q=>obtain⟨rfl,rfl⟩:=hz;rfl
     | none=>obtain⟨hz,rfl⟩:=hz;simp only[Sem.run_bind,hz,Result.andThen_ok,Sem.run_pure]
  ·simp at hl9
def o9{es:List (AV×AV×Nat)}{l:List MapEntry}{σ:Sg}(hel:EL σ es l){i:Nat}{e:AV×AV×Nat}(he:es[i]?=some e):∃m,l[i]?=some m/\ER σ e m/\found (some i) 0 l=some (i,m.val):=by
 obtain⟨m,h1,h2⟩:=hel.get he;exact⟨m,h1,h2,by simp[found,h1]⟩
def ft{α:Type}{l:List α}{i:Nat}{x:α}(h:l[i]?=some x):i<l.length:=by
 rcases be i l.length with h' | h'
 ·exact h'
 ·simp[ap h'] at h
def mz{σ:Sg}{es:List (AV×AV×Nat)}{es':Array MapEntry}{c:Nat}{p:kR}(h:EL σ es es'.toList):OR σ (.map es c) p (some (.map es' c)):=
 ⟨es',rfl,by have:=h.1;simpa using this,λi e m he hm=>h.2 i e m he (by simpa using hm)⟩
def jC{P:Program}{σ:Sg}{h h':H}{w:World}(hr:HR σ h w){t:TypeId}{x k a:AV}{v u z:Value}(hl:fv P h t x k a=some h')(hv:V σ x v)(hk:V σ k u)(ha:V σ a z):
 ∃w',(Instr.mapUpdate t v u z).run P w=.ok () w'/\HR σ h' w'/\Ext σ σ h h' w w':=by
 unfold fv at hl
 cases hm:bP P t with
 | none=>simp[hm] at hl
 | some q=>
  obtain⟨kt,et⟩:=q;simp only[hm,ac] at hl;obtain⟨hka,hl9⟩:=aw hl;clear hl;have hu:=fQ hm;obtain⟨kd,hkd⟩:=sD hka;split at hl9
  ·rename_i id
   cases hv with
   | @map _ p hp=>
    cases hmo:h.mapOf id with
    | none=>simp[hmo] at hl9
    | some q=>
     obtain⟨es,c⟩:=q;simp only[hmo,ac] at hl9;obtain⟨ho,es',h1,h2⟩:=hr.map hmo hp
     cases hf:dN P kt k es 0 with
     | none=>simp[hf] at hl9
     | some r0=>
      simp only[hf,ac] at hl9;have hfind:=gR (w:=w) hkd hk hf h2
      cases r0 with
      | some i=>
       cases he:es[i]? with
       | none=>simp[he] at hl9
       | some e=>
        simp only[he,ac] at hl9;obtain⟨hst,hl9⟩:=aw hl9;simp only[Option.some.injEq] at hl9;subst hl9;obtain⟨m,hm1,hm2,hfo⟩:=o9 h2 he
        have hm1':es'[i]?=some m:=by simpa using hm1
        have hst':=rR (P:=P) (w:=w) hst hk hm2.1
        have hel:EL σ (setAt (k,a,e.2.2) es i) (es'.modify i λm=>{ m with key:=u,val:=z }).toList:=
         h2.set (ft he) (λm' hm'=>by rw[hm1] at hm';cases hm';exact⟨hk,ha,hm2.2.2⟩)
        obtain⟨g1,g2⟩:=hr.eX ho rfl rfl hp (mz (c:=c) (p:=p) hel);refine⟨_,?_,g1,g2⟩;simp only[Instr.mapUpdate,Sem.run_bind,aA hu,Result.andThen_ok,bj h1 (by simp),eS hka hk,hfind,hfo,hm1',af,d6,hst'];exact cE h1 (by simp)
      | none=>
       simp only[Option.some.injEq] at hl9;subst hl9
       have hel:EL σ (es++[(k,a,c)]) (es'.push { key:=u,val:=z,born:=c }).toList:=by
        rw[dd];exact h2.append (.one ⟨hk,ha,rfl⟩)
       obtain⟨g1,g2⟩:=hr.eX ho rfl rfl hp (mz (c:=c+1) (p:=p) hel);refine⟨_,?_,g1,g2⟩;simp only[Instr.mapUpdate,Sem.run_bind,aA hu,Result.andThen_ok,bj h1 (by simp),eS hka hk,hfind,found];exact cE h1 (by simp)
  ·simp at hl9
def qq{P:Program}{σ:Sg}{h h':H}{w:World}(hr:HR σ h w){t:TypeId}{x k r:AV}{v u:Value}(hl:mO P h t x k=some (r,h'))(hv:V σ x v)(hk:V σ k u):
 ∃z w',(Instr.mapEntry t v u).run P w=.ok z w'/\V σ r z/\HR σ h' w'/\Ext σ σ h h' w w':=by
 unfold mO at hl
 cases hm:bP P t with
 | none=>simp[hm] at hl
 | some q=>
  obtain⟨kt,et⟩:=q;simp only[hm,ac] at hl;obtain⟨hka,hl9⟩:=aw hl;clear hl;have hu:=fQ hm;obtain⟨kd,hkd⟩:=sD hka;split at hl9
  ·rename_i id
   cases hv with
   | @map _ p hp=>
    cases hmo:h.mapOf id with
    | none=>simp[hmo] at hl9
    | some q=>
     obtain⟨es,c⟩:=q;simp only[hmo,ac] at hl9;obtain⟨ho,es',h1,h2⟩:=hr.map hmo hp
     cases hf:dN P kt k es 0 with
     | none=>simp[hf] at hl9
     | some r0=>
      simp only[hf,ac] at hl9;have hfind:=gR (w:=w) hkd hk hf h2
      cases r0 with
      | some i=>
       cases he:es[i]? with
       | none=>simp[he] at hl9
       | some e=>
        simp only[he,ac] at hl9;obtain⟨hst,hl9⟩:=aw hl9;simp only[Option.some.injEq,Prod.mk.injEq] at hl9;obtain⟨rfl,rfl⟩:=hl9;obtain⟨m,hm1,hm2,hfo⟩:=o9 h2 he
        have hm1':es'[i]?=some m:=by simpa using hm1
        have hst':=rR (P:=P) (w:=w) hst hk hm2.1
        have hel:EL σ (setAt (k,e.2.1,e.2.2) es i) (es'.modify i λm=>{ m with key:=u }).toList:=
         h2.set (ft he) (λm' hm'=>by rw[hm1] at hm';cases hm';exact⟨hk,hm2.2.1,hm2.2.2⟩)
        obtain⟨g1,g2⟩:=hr.eX ho rfl rfl hp (mz (c:=c) (p:=p) hel);refine⟨.tuple #[m.val,goInt m.born],_,?_,?_,g1,g2⟩
        ·simp only[Instr.mapEntry,Sem.run_bind,aA hu,Result.andThen_ok,bj h1 (by simp),eS hka hk,hfind,hfo,hm1',af,d6,hst',cE h1 (by simp),Sem.run_pure]
        ·rw[hm2.2.2];exact .dk (.cons hm2.2.1 (.cons (.int _ _) .nil))
      | none=>
       cases hz:bT P et with
       | none=>simp[hz] at hl9
       | some z=>
        simp only[hz,af,Option.some.injEq,Prod.mk.injEq] at hl9;obtain⟨rfl,rfl⟩:=hl9;obtain⟨zv,hzr,hzV,_⟩:=dV (w:=w) (σ:=σ) hz
        have hel:EL σ (es++[(k,z,c)]) (es'.push { key:=u,val:=zv,born:=c }).toList:=by
         rw[dd];exact h2.append (.one ⟨hk,hzV,rfl⟩)
        obtain⟨g1,g2⟩:=hr.eX ho rfl rfl hp (mz (c:=c+1) (p:=p) hel);refine⟨.tuple #[zv,goInt c],_,?_,.dk (.cons hzV (.cons (.int _ _) .nil)),g1,g2⟩;simp only[Instr.mapEntry,Sem.run_bind,aA hu,Result.andThen_ok,bj h1 (by simp),eS hka hk,hfind,found,hzr,cE h1 (by simp),Sem.run_pure]
  ·simp at hl9
def kD{b:Nat}:∀(es:List (AV×AV×Nat)) (k i:Nat),fi b es k=some i->k<=i/\i<k+es.length/\(∃e,es[i-k]?=some e/\e.2.2=b)/\∀j,j<i-k->∀e,es[j]?=some e->e.2.2≠b
 | [],k,i,h=>by simp[fi] at h
 | e::es,k,i,h=>by
  simp only[fi] at h;cases hb:beq e.2.2 b
  ·rw[hb,ah] at h;obtain⟨h1,h2,⟨x,h3,h4⟩,h5⟩:=kD es (k+1) i h;refine⟨by omega,by simp;omega,⟨x,?_,h4⟩,?_⟩
   ·rw[show i-k=(i-(k+1))+1 by omega,bb];exact h3
   ·intro j hj y hy
    cases j with
    | zero=>simp at hy;subst hy;exact dT hb
    | succ j=>exact h5 j (by omega) y (by simpa using hy)
  ·rw[hb,ab] at h;simp only[Option.some.injEq] at h;subst h;exact⟨al _,by simp,⟨e,by simp,bD hb⟩,λj hj=>by omega⟩
def xv{b i:Nat}{σ:Sg}{es:List (AV×AV×Nat)}{l:Array MapEntry}(h:EL σ es l.toList)(hb:fi b es 0=some i):l.findIdx? (λe=>(e.born:Int)==(b:Int))=some i:=by
 obtain⟨h1,h2,⟨x,h3,h4⟩,h5⟩:=kD es 0 i hb;obtain⟨m,hm1,hm2⟩:=h.get (i:=i) (by simpa using h3)
 have hi:i<l.size:=by have:=ft hm1;simpa using this
 have hm1':l[i]=m:=by
  have:l[i]?=some m:=by simpa using hm1
  rw[bh hi] at this;simpa using this
 rw[Array.findIdx?_eq_some_iff_getElem];refine⟨hi,?_,?_⟩
 ·rw[hm1'];have:=hm2.2.2;simp;omega
 ·intro j hj
  have hjl:j<es.length:=by have:=h.1;simp at this;omega
  have:=h5 j (by omega) _ (ax hjl);have hr:=(h.2 j _ (l[j]'(by omega)) (ax hjl) (by simp)).2.2;simp;omega
def nN{P:Program}{σ:Sg}{h h':H}{w:World}(hr:HR σ h w){t:TypeId}{x s a:AV}{v u z:Value}(hl:js h x s a=some h')(hv:V σ x v)(hs:V σ s u)(ha:V σ a z):
 ∃w',(Instr.entryStore t v u z).run P w=.ok () w'/\HR σ h' w'/\Ext σ σ h h' w w':=by
 unfold js at hl;split at hl
 ·rename_i id
  cases hv with
  | @map _ p hp=>
   cases hmo:h.mapOf id with
   | none=>simp[hmo] at hl
   | some q=>
    obtain⟨es,c⟩:=q;simp only[hmo,ac] at hl;obtain⟨ho,es',h1,h2⟩:=hr.map hmo hp
    cases hn:bN s with
    | none=>simp[hn] at hl
    | some b=>
     simp only[hn,ac] at hl;obtain⟨k,rfl,hk⟩:=fw (P:=P) (w:=w) hn hs
     cases hb:fi b es 0 with
     | none=>simp[hb] at hl
     | some i=>
      simp only[hb,ac] at hl
      cases he:es[i]? with
      | none=>simp[he] at hl
      | some e=>
       simp only[he,af,Option.some.injEq] at hl;subst hl;obtain⟨m,hm1,hm2⟩:=h2.get he
       have hel:EL σ (setAt (e.1,a,e.2.2) es i) (es'.modify i λm=>{ m with val:=z }).toList:=
        h2.set (ft he) (λm' hm'=>by rw[hm1] at hm';cases hm';exact⟨hm2.1,ha,hm2.2.2⟩)
       obtain⟨g1,g2⟩:=hr.eX ho rfl rfl hp (mz (c:=c) (p:=p) hel);refine⟨_,?_,g1,g2⟩;simp only[Instr.entryStore,Sem.run_bind,Sem.run_pure,Result.andThen_ok,bj h1 (by simp),asInt,hk,xv h2 hb];exact cE h1 (by simp)
 ·simp at hl
def ru(n:Nat):∀(r c:Nat),c<=n+n/4+192->Builtin.growBy n r c<=n+n/4+192
 | 0,c,h=>by simpa [Builtin.growBy] using h
 | r+1,c,h=>by
  simp only[Builtin.growBy];split
  ·exact h
  ·exact ru n r _ (by omega)
def xL{n c:Nat}(h:c<n):Builtin.nextslicecap n c<=2*n+192:=by
 unfold Builtin.nextslicecap;split
 ·omega
 ·split
  ·omega
  ·have:=ru n 4 c (by omega);omega
def gG{P:Program}{σ:Sg}{h:H}{w:World}(hr:HR σ h w){o:Option (Nat×Nat)}{n len es s:Nat}{cap:Option Nat}{cs:List AV}{v:Value}(hc:bo h o n s=some cs)(hes:es=s\/n=0)(hn:n<=len)
 (hv:V σ (.slice o len es cap) v):∃vs,VL σ cs vs/\cs.length=n*s/\∀w',w'.heap=w.heap->(Builtin.firstCells s n v).run P w'=.ok vs.toArray w':=by
 unfold bo at hc
 cases o with
 | none=>
  obtain⟨h0,hc2⟩:=aw hc;clear hc;have:=bD h0;subst this;simp only[Option.some.injEq] at hc2;subst hc2;cases hv;exact⟨[],.nil,by simp,λw' _=>by simp[Builtin.firstCells]⟩
 | some q=>
  obtain⟨id,off⟩:=q;simp only at hc;cases h0:beq n 0
  ·rw[h0,ah] at hc;have hn0:=dT h0;have hes:=hes.resolve_right hn0;subst hes
   cases hv with
   | @slice _ _ _ _ _ a p c hp hl hroom hcap ha=>
    have ha:=ha.resolve_right (by omega);subst ha;obtain⟨vs,h1,h2,h3⟩:=hr.chunk hc hp;refine⟨vs,h1,h2,λw' hw'=>?_⟩
    have e:n*es=vs.length:=by rw[<-h1.1];exact h2.symm
    simp only[Builtin.firstCells];rw[e]
    exact ig λj v hv=>by rw[<-h3 j v hv];simp[World.cell?,hw']
  ·rw[h0,ab] at hc;have:=bD h0;subst this;simp only[Option.some.injEq] at hc;subst hc
   cases hv with
   | slice hp hl hroom hcap ha=>exact⟨[],.nil,by simp,λw' _=>by simp[Builtin.firstCells,loadCells,loadCellsFrom]⟩
def App(P:Program)(w:World)(e s:Nat)(xt:TypeId)(u:Value)(n:Nat)(vs:List Value):Prop:=
 ∃d,P.underlying xt=some d/\
  (
   ((∃k,d=.int k)/\∃k,u=.int k (n:Int)/\∃z,(zeroValue e).run P w=.ok z w/\(n*s≠0->Builtin.zeroCells z.cells n=vs.toArray)/\(n*s=0->vs=[]))\/
   ((∀k,d≠.int k)/\(Builtin.lenOf u).run P w=.ok n w/\(Builtin.firstCells s n u).run P w=.ok vs.toArray w))
def qj{P:Program}{σ:Sg}{h:H}{w:World}(hr:HR σ h w){e s:Nat}{xt:TypeId}{y:AV}{u:Value}{n:Nat}{cs:List AV}(hs0:s≠0)
 (ha:gj P h e s xt y=some (n,cs)) (hu:V σ y u):∃vs,VL σ cs vs/\cs.length=n*s/\∀w',w'.heap=w.heap->App P w' e s xt u n vs:=by
 unfold gj at ha;split at ha
 ·rename_i k hd
  cases hn:bN y with
  | none=>simp[hn] at ha
  | some n0=>
   cases hz:bT P e with
   | none=>simp[hn,hz] at ha
   | some z=>
    simp only[hn,hz,ac] at ha;obtain⟨hc,ha2⟩:=aw ha;clear ha;simp only[ad] at hc;have hzl:=bD hc.2;simp only[Option.some.injEq,Prod.mk.injEq] at ha2;obtain⟨rfl,rfl⟩:=ha2;obtain⟨zv,_,hzV,iz,hiz,hizz⟩:=dV (w:=w) (σ:=σ) hz;obtain⟨k1,rfl,hk1⟩:=fw (P:=P) (w:=w) hn hu
    have hzs:zv.cells.size=s:=by have:=hzV.cells.1;simp at this;omega
    have hrep:=sS hzV.cells (by omega) n0;rw[hzl] at hrep;refine⟨_,hrep,by rw[dn,hzl],λw' _=>⟨_,hd,.inl ⟨⟨k,rfl⟩,k1,rfl,zv,by simp[zeroValue,bI hiz,hizz],?_,?_⟩⟩⟩
    ·intro _;simp only[Builtin.zeroCells,hzs]
    ·intro h0;rw[h0];simp
 ·rename_i d hnd hd;split at ha
  ·rename_i o m es cp;obtain⟨hc,ha2⟩:=aw ha;clear ha
   cases hsc:bo h o m s with
   | none=>simp[hsc] at ha2
   | some cs0=>
    simp only[hsc,af,Option.some.injEq,Prod.mk.injEq] at ha2;obtain⟨rfl,rfl⟩:=ha2
    have hes:es=s\/m=0:=by
     simp only[cl] at hc
     rcases hc with hc | hc
     ·exact .inl (bD hc)
     ·exact .inr (bD hc)
    obtain⟨vs,h1,h2,h3⟩:=gG (P:=P) hr hsc hes (al _) hu;refine⟨vs,h1,h2,λw' hw'=>⟨d,hd,.inr ⟨λk e=>hnd k e,?_,h3 w' hw'⟩⟩⟩
    cases hu with
    | eb h0=>subst h0;rfl
    | slice hp hl hroom hcap ha=>rfl
  ·simp at ha
 ·simp at ha
def ek{P:Program}{w:World}{ats:Array TypeId}{T st xt e s:TypeId}{args:Array Value}{base:Option Addr}{u:Value}{len c n:Nat}{vs:List Value}{i:TypeInfo}
 (h0:ats[0]?=some st) (h1:ats[1]?=some xt) (h2:args[0]?=some (.slice base len c)) (h3:args[1]?=some u) (hst:P.underlying st=some (.slice e)) (hi:P.info? e=some i) (his:i.size=s) (hib:i.bytes<=10000)
 (happ:App P w e s xt u n vs) (hn:n<=1000000) (hle:len+n<=c):
 (Builtin.append_ ats T args).run P w=(match base with
  | some a=>((storeCells (a.add (len*s)) vs).run P w).andThen λ_ w'=>.ok (.slice base (len+n) c) w'
  | none=>.ok (.slice base (len+n) c) w):=by
 have hsz:(sizeOf e).run P w=.ok s w:=by simp[sizeOf,bI hi,his]
 obtain⟨d,hd,happ⟩:=happ
 rcases happ with⟨⟨k,rfl⟩,k2,rfl,z,hz,hz1,hz2⟩ | ⟨hk,hl,hf⟩
 ·have hw:=wrap_small n (by omega)
  have hb:¬((n:Int)*(i.bytes:Int)>2^48):=by
   have:n*i.bytes<=1000000*10000:=ca hn hib;rw[<-ch]
   have e2:((2:Int)^48)=281474976710656:=by decide
   rw[e2];omega
  have hneg:¬((n:Int)<0):=by omega
  simp only[Builtin.append_,h0,h1,h2,h3,Sem.run_bind,aA hst,Result.andThen_ok,hsz,aA hd,Sem.run_pure,if_true,asInt,asIntOf,hw,hneg,if_false,bI hi,hb,bt,hle,b9,ay];by_cases hz0:n*s=0
  ·simp only[hz0,if_true,Sem.run_pure,Result.andThen_ok,hz2 hz0];cases base<;>simp[storeCells]
  ·simp only[hz0,if_false,Sem.run_bind,hz,Result.andThen_ok,Sem.run_pure,hz1 hz0];cases base<;>simp
 ·simp only[Builtin.append_,h0,h1,h2,h3,Sem.run_bind,aA hst,Result.andThen_ok,hsz,aA hd,Sem.run_pure,ay,if_false,hl,hle,if_true,d5,hf];cases base<;>simp
def ue{P:Program}{w:World}{ats:Array TypeId}{T st xt e s:TypeId}{args:Array Value}{base:Option Addr}{u z:Value}{len c n:Nat}{vs gm:List Value}{i:TypeInfo}
 (h0:ats[0]?=some st) (h1:ats[1]?=some xt) (h2:args[0]?=some (.slice base len c)) (h3:args[1]?=some u) (hst:P.underlying st=some (.slice e)) (hi:P.info? e=some i) (his:i.size=s) (hib:i.bytes<=10000)
 (happ:∀w',w'.heap=w.heap->App P w' e s xt u n vs) (hn:n<=1000000) (hln:len<=1000000) (hgt:c<len+n) (hzv:∀w',(zeroValue e).run P w'=.ok z w') (hold:∀w',w'.heap=w.heap->(Builtin.firstCells s len (.slice base len c)).run P w'=.ok gm.toArray w'):
 ∃(nc:Nat) (w1:World) (rest:Array Value),len+n<=nc/\w1.heap=w.heap/\w1.os=w.os/\w1.tape=w.tape/\w1.output=w.output/\
  (Builtin.append_ ats T args).run P w=.ok (.slice (some ⟨w.heap.size,0,none⟩) (len+n) nc) { w1 with heap:=w.heap.push (.cells (gm.toArray++vs.toArray++rest) e (0,0)) }/\rest.size=(nc-(len+n))*z.cells.size:=by
 have hsz:∀w',(sizeOf e).run P w'=.ok s w':=λw'=>by simp[sizeOf,bI hi,his]
 have hnle:¬(len+n<=c):=by omega
 have hcap:=xL hgt
 have hroom:¬(Builtin.nextslicecap (len+n) c*i.bytes>2^48):=by
  have:Builtin.nextslicecap (len+n) c*i.bytes<=5000000*10000:=ca (by omega) hib;omega
 let w1:World:={ w with drawn:=w.drawn+1 }
 let nc:=(len+n)+(w.tape w.drawn (.appendCap (len+n) c e))%(2^63-(len+n))
 refine⟨nc,w1,Builtin.zeroCells z.cells (nc-(len+n)),Nat.le_add_right _ _,rfl,rfl,rfl,rfl,?_,by simp[Builtin.zeroCells]⟩;have hforced:(Question.appendCap (len+n) c e).forced=false:=rfl;have hcut:(Question.appendCap (len+n) c e).cut (w.tape w.drawn (.appendCap (len+n) c e))=nc:=rfl;have happ0:=happ w rfl;have happ1:=happ w1 rfl;have hold1:=hold w1 rfl;obtain⟨d,hd,happ0⟩:=happ0;obtain⟨d',hd',happ1⟩:=happ1;rw[hd] at hd';cases hd'
 have hint:∀(q:Bool),¬(((len+n:Nat):Int)>IntKind.i64.max/\q=true):=by
  intro q hq
  have e2:IntKind.i64.max=9223372036854775807:=by decide
  rw[e2] at hq;omega
 have hint':∀(q:Prop),¬(((len+n:Nat):Int)>IntKind.i64.max/\q):=by
  intro q hq
  have e2:IntKind.i64.max=9223372036854775807:=by decide
  rw[e2] at hq;omega
 rcases happ0 with⟨⟨k,rfl⟩,k2,rfl,z',hz,hz1,hz2⟩ | ⟨hk,hl,hf⟩
 ·have hzz:z'=z:=by have:=hzv w;rw[hz] at this;simpa using this
  subst hzz;have hw:=wrap_small n (by omega)
  have hb:¬((n:Int)*(i.bytes:Int)>2^48):=by
   have:n*i.bytes<=1000000*10000:=ca hn hib;rw[<-ch]
   have e2:((2:Int)^48)=281474976710656:=by decide
   rw[e2];omega
  have hneg:¬((n:Int)<0):=by omega
  simp only[Builtin.append_,h0,h1,h2,h3,Sem.run_bind,aA hst,Result.andThen_ok,hsz,aA hd,Sem.run_pure,if_true,asInt,asIntOf,hw,hneg,if_false,bI hi,hb,bt,hnle,b9,ay,hint',hroom,run_choose,hforced,hcut,run_askRoom];show _=_;rw[hold1];simp only[Result.andThen_ok];by_cases hz0:n*s=0
  ·simp only[hz0,if_true,Sem.run_pure,Result.andThen_ok,hz2 hz0,hzv,newRow,Sem.run_bind,run_newObj];rfl
  ·simp only[hz0,if_false,Sem.run_bind,hzv,Result.andThen_ok,Sem.run_pure,hz1 hz0,newRow,run_newObj];rfl
 ·rcases happ1 with⟨⟨k,rfl⟩,_⟩ | ⟨_,_,hf1⟩
  ·exact t7 rfl (hk k)
  simp only[Builtin.append_,h0,h1,h2,h3,Sem.run_bind,aA hst,Result.andThen_ok,hsz,aA hd,Sem.run_pure,ay,if_false,hl,hnle,if_true,d5,bI hi,hint',hroom,run_choose,hforced,hcut,run_askRoom];show _=_;rw[hold1];simp only[Result.andThen_ok];rw[hf1];simp only[Result.andThen_ok,Sem.run_bind,hzv,Sem.run_pure,newRow,run_newObj];rfl
def HR.fork{σ:Sg}{h:H}{w w':World}(hr:HR σ h w){id aX k:Nat}{bs cs':List AV}{p q:kR}(ho:h.aD.get id=some (.cells bs aX))(hp:σ id=some p)
 (hq:q.b=p.b\/w.heap.size<=q.b) (h1:OR σ (.cells (bs.take k) aX) p w'.heap[p.b]?) (h2:OR (up σ h.next q) (.cells cs' aX) q w'.heap[q.b]?)
 (hw:∀b,b<w.heap.size->b≠p.b->w'.heap[b]?=w.heap[b]?) (hsz:w.heap.size<=w'.heap.size) (e1:w'.os=w.os) (e2:w'.tape=w.tape) (e3:w'.output=w.output):
 HR (up σ h.next q) (h.cK id aX (bs.take k) cs') w'/\Ext σ (up σ h.next q) h (h.cK id aX (bs.take k) cs') w w':=by
 obtain⟨a1,a2,a3,a4,a5,a6,a7,a8⟩:=gQ hr ho;have hnone:σ h.next=none:=hr.fresh _ (al _);have hle:=gM (p:=q) hnone;have hidn:=hr.FT ho
 have hget:∀j x,(h.cK id aX (bs.take k) cs').aD.get j=some x->
  (j=h.next/\x=.cells cs' aX)\/(j=id/\x=.cells (bs.take k) aX)\/(j≠id/\j≠h.next/\h.aD.get j=some x/\(∀q,σ j=some q->q.b≠p.b)/\∀cs f,x=.cells cs f->f≠aX):=by
  intro j x hx;simp only[H.cK] at hx;rw[bU,a4] at hx;split at hx
  ·rename_i e;cases hx;exact .inl ⟨e,rfl⟩
  ·rename_i hn;rw[bU] at hx;split at hx
   ·rename_i e;cases hx;exact .inr (.inl ⟨e,rfl⟩)
   ·rename_i hne;have hx':=a2 j x hx;refine .inr (.inr ⟨hne,hn,hx',?_,?_⟩)
    ·intro q' hq' hb;obtain⟨cs1,f1⟩:=(hr.sep j id x _ q' p hne hx' ho hq' hp hb).left;subst f1;exact hne (a3 j cs1 hx)
    ·intro cs f e hf;subst e;subst hf;exact hne (a3 j cs hx)
 have hup:∀j,j≠h.next->∀r,up σ h.next q j=some r->σ j=some r:=by
  intro j hj r hr';simpa [up,hj] using hr'
 refine⟨⟨?_,?_,?_,?_,?_⟩,⟨hle,by simp only[H.cK];omega,hsz,e1,e2,e3,?_,?_,?_,?_,?_,?_⟩⟩
 ·intro j x hx
  rcases hget j x hx with⟨rfl,rfl⟩ | ⟨rfl,rfl⟩ | ⟨c1,c2,c3,c4,_⟩
  ·exact⟨q,cC _ _ _,h2⟩
  ·exact⟨p,hle _ _ hp,h1.mono hle⟩
  ·obtain⟨r,r1,r2⟩:=hr.obj j x c3;exact⟨r,hle _ _ r1,by rw[hw _ (hr.lt c3 r1) (c4 r r1)];exact r2.mono hle⟩
 ·intro j hj;simp only[H.cK] at hj
  have:j≠h.next:=by omega
  simp[up,this,hr.fresh j (by omega)]
 ·intro i j x y r s hij hx hy h3 h4 hb
  rcases hget i x hx with⟨rfl,rfl⟩ | ⟨rfl,rfl⟩ | ⟨c1,c2,c3,c4,_⟩
  ·rw[cC] at h3;cases h3
   rcases hget j y hy with⟨rfl,rfl⟩ | ⟨rfl,rfl⟩ | ⟨d1,d2,d3,d4,_⟩
   ·exact t7 rfl hij
   ·exact .inl ⟨_,_,_,rfl,rfl⟩
   ·have h4':=hup j d2 s h4;have:=hr.lt d3 h4';have:=d4 s h4'
    rcases hq with hq | hq<;>omega
  ·have h3':=hup i (by omega) r h3;rw[hp] at h3';cases h3'
   rcases hget j y hy with⟨rfl,rfl⟩ | ⟨rfl,rfl⟩ | ⟨d1,d2,d3,d4,_⟩
   ·exact .inl ⟨_,_,_,rfl,rfl⟩
   ·exact t7 rfl hij
   ·exact t7 hb.symm (d4 s (hup j d2 s h4))
  ·have h3':=hup i c2 r h3
   rcases hget j y hy with⟨rfl,rfl⟩ | ⟨rfl,rfl⟩ | ⟨d1,d2,d3,d4,_⟩
   ·rw[cC] at h4;cases h4;have:=hr.lt c3 h3';have:=c4 r h3'
    rcases hq with hq | hq<;>omega
   ·have h4':=hup j (by omega) s h4;rw[hp] at h4';cases h4';exact t7 hb (c4 r h3')
   ·exact hr.sep i j x y r s hij c3 d3 h3' (hup j d2 s h4) hb
 ·intro i cs f hi;have hfn:(h.cK id aX (bs.take k) cs').next=(h.alone id aX).next+1:=rfl;have hff:(h.cK id aX (bs.take k) cs').bW=(h.alone id aX).bW.put aX (some (id,(h.alone id aX).next)):=rfl;rw[hfn,hff]
  rcases hget i _ hi with⟨rfl,hx⟩ | ⟨rfl,hx⟩ | ⟨c1,c2,c3,c4,c5⟩
  ·cases hx;have:=(hr.aX id _ _ ho).1;exact⟨by omega,_,_,bC _ _ _,.inr a4.symm⟩
  ·cases hx;have:=(hr.aX i _ _ ho).1;exact⟨by omega,_,_,bC _ _ _,.inl rfl⟩
  ·obtain⟨b1,x,y,b2,b3⟩:=hr.aX i _ _ c3;have hne:=c5 cs f rfl;exact⟨by omega,x,y,by rw[aJ _ _ hne,a6 f hne];exact b2,b3⟩
 ·have:=cj (h.alone id aX).low id;simp only[H.cK];omega
 ·intro j x r hx hr'
  rcases hget j x hx with⟨rfl,rfl⟩ | ⟨rfl,rfl⟩ | ⟨c1,c2,c3,c4,_⟩
  ·rw[cC] at hr';cases hr'
   rcases hq with hq | hq
   ·exact .inr ⟨id,_,p,ho,hp,hq.symm,λ_ cs e=>by cases e⟩
   ·exact .inl hq
  ·exact .inr ⟨j,_,r,ho,hup j (by omega) r hr',rfl,λ_ cs e=>by cases e⟩
  ·exact .inr ⟨j,x,r,c3,hup j c2 r hr',rfl,λh=>h⟩
 ·intro b hb hn;exact hw b hb λe=>hn id _ p ho (λcs e=>by cases e) hp e.symm
 ·exact bc (cj _ _).1 a7
 ·intro j hj hjn;simp only[H.cK] at hj ⊢;have:=cj (h.alone id aX).low id;rw[aJ _ _ (by omega),aJ _ _ (by omega)];exact a8 j (by omega)
 ·intro j hj hn;simp only[up];rw[ul (by omega)];exact hn
 ·intro j cs f hj
  rcases hget j _ hj with⟨rfl,hx⟩ | ⟨rfl,hx⟩ | ⟨c1,c2,c3,c4,c5⟩
  ·cases hx;exact .inr ⟨id,bs,ho⟩
  ·cases hx;exact .inr ⟨j,bs,ho⟩
  ·exact .inr ⟨j,cs,c3⟩
def Yields(P:Program)(σ:Sg)(h h':H)(w:World)(r:AV)(s:Sem Value):Prop:=
 ∃σ' z w',s.run P w=.ok z w'/\V σ' r z/\HR σ' h' w'/\Ext σ σ' h h' w w'
def ni(h:H)(cs:List AV):h.gz cs=(h.next,{ h.lay h.next (.cells cs h.next) with next:=h.next+1 }):=rfl
def HR.zJ{σ:Sg}{h:H}{w w1:World}(hr:HR σ h w){aS:List AV}{vs:List Value}{c:Array Value}{e:TypeId}(hv:VL σ aS vs)(hc:c.toList.take vs.length=vs)
 (e1:w1.os=w.os) (e2:w1.tape=w.tape) (e3:w1.output=w.output):
 HR (up σ h.next ⟨w.heap.size,0,c.size⟩) { h.lay h.next (.cells aS h.next) with next:=h.next+1 } { w1 with heap:=w.heap.push (.cells c e (0,0)) }/\
 Ext σ (up σ h.next ⟨w.heap.size,0,c.size⟩) h { h.lay h.next (.cells aS h.next) with next:=h.next+1 } w { w1 with heap:=w.heap.push (.cells c e (0,0)) }:=
 hr.new (λcs f hf=>by cases hf;rfl) (xg (hv.mono (gM (hr.fresh _ (al _)))) hc) rfl e1 e2 e3
def ud{P:Program}{σ:Sg}{h h':H}{w:World}(hr:HR σ h w){ats:Array TypeId}{T st xt:TypeId}{args:Array Value}{x y r:AV}{v u:Value}(ha:kX P h st xt x y=some (r,h'))
 (h0:ats[0]?=some st) (h1:ats[1]?=some xt) (h2:args[0]?=some v) (h3:args[1]?=some u) (hv:V σ x v) (hu:V σ y u):Yields P σ h h' w r (Builtin.append_ ats T args):=by
 unfold kX at ha;split at ha
 ·rename_i e o len es cap hst
  cases hi:P.info? e with
  | none=>simp[hi] at ha
  | some i=>
   cases hz:bT P e with
   | none=>simp[hi,hz] at ha
   | some z=>
    simp only[hi,hz,ac] at ha;obtain⟨hc,ha2⟩:=aw ha;clear ha;simp only[ad] at hc;obtain⟨q1,q2,q3,q4⟩:=hc;have q1:=bD q1;have q3:=eu q3;have q4:=eu q4
    have q2:i.size≠0:=by intro e0;rw[e0] at q2;simp at q2
    cases hap:gj P h e i.size xt y with
    | none=>simp[hap] at ha2
    | some nc=>
     obtain⟨n,cs⟩:=nc;simp only[hap,ac] at ha2;obtain⟨vs,v1,v2,v3⟩:=qj hr q2 hap hu;obtain⟨zv,_,hzV,iz,hiz,hizz⟩:=dV (w:=w) (σ:=σ) hz
     have hzr:∀w',(zeroValue e).run P w'=.ok zv w':=λw'=>by simp[zeroValue,bI hiz,hizz]
     have hzs:zv.cells.size=i.size:=by have:=hzV.cells.1;simp at this;omega
     have hvl:=v1.1;cases hn0:beq n 0
     ·rw[hn0,ah] at ha2;have hn0:=dT hn0;obtain⟨hn6,ha3⟩:=aw ha2;clear ha2;have hn6:=eu hn6
      have grow:∀(base:Option Addr) (c:Nat) (gm:List AV) (olds:List Value) (aX:Nat),v=.slice base len c->c<len+n->VL σ gm olds->(∀w',w'.heap=w.heap->(Builtin.firstCells i.size len (.slice base len c)).run P w'=.ok olds.toArray w')->gm.length=len*i.size->
       ∃(nc:Nat) (w1:World) (rest:Array Value),len+n<=nc/\w1.heap=w.heap/\w1.os=w.os/\w1.tape=w.tape/\w1.output=w.output/\
        (Builtin.append_ ats T args).run P w=.ok (.slice (some ⟨w.heap.size,0,none⟩) (len+n) nc) { w1 with heap:=w.heap.push (.cells (olds.toArray++vs.toArray++rest) e (0,0)) }/\
        (olds.toArray++vs.toArray++rest).size=nc*i.size/\((olds.toArray++vs.toArray++rest).toList.take (olds++vs).length=olds++vs)/\aX=aX:=by
       intro base c gm olds aX hv0 hlt hvo hold hol;subst hv0;obtain⟨nc,w1,rest,g1,g2,g3,g4,g5,g6,g7⟩:=ue (T:=T) h0 h1 h2 h3 hst hi rfl q4 (λw' hw'=>v3 w' hw') hn6 q3 hlt hzr hold;refine⟨nc,w1,rest,g1,g2,g3,g4,g5,g6,?_,?_,rfl⟩
       ·have:=hvo.1;simp only[Array.size_append,List.size_toArray,g7,hzs]
        have e1:olds.length=len*i.size:=by omega
        have e2:vs.length=n*i.size:=by omega
        rw[e1,e2,<-ce,<-ce]
        congr 1;omega
       ·simp only[Array.toList_append];rw[List.take_left'];simp
      split at ha3
      ·simp only[ni,Option.some.injEq,Prod.mk.injEq] at ha3;obtain⟨rfl,rfl⟩:=ha3
       cases hv with
       | eb hl0=>
        subst hl0;obtain⟨nc,w1,rest,g1,g2,g3,g4,g5,g6,g7,g8,_⟩:=grow none 0 [] [] 0 rfl (by omega) .nil (λw' _=>by simp[Builtin.firstCells]) (by simp);obtain⟨k1,k2⟩:=hr.zJ (w1:=w1) (e:=e) (VL.append .nil v1) g8 g3 g4 g5;refine⟨_,_,_,g6,?_,k1,k2⟩;rw[Nat.zero_add] at g1 ⊢;exact .slice (cC _ _ _) g1 (by simp only[g7];omega) (λx hx=>by cases hx) (.inl rfl)
      ·rename_i id off;obtain⟨hes,ha4⟩:=aw ha3;clear ha3;have hes:=bD hes;subst hes
       cases hv with
       | @slice _ _ _ _ _ a p c hp hl hroom hcap haddr=>
        split at ha4
        ·rename_i c0;have:=hcap c0 rfl;subst this;cases hle:ble (len+n) c0
         ·rw[hle,ah] at ha4;have hlt:=oq hle
          cases hsc:bo h (some (id,off)) len i.size with
          | none=>simp[hsc] at ha4
          | some gm=>
           simp only[hsc,af,ni,Option.some.injEq,Prod.mk.injEq] at ha4;obtain⟨rfl,rfl⟩:=ha4;obtain⟨olds,o1,o2,o3⟩:=gG (P:=P) (cap:=some c0) (v:=.slice (some a) len c0) hr hsc (.inl rfl) (al _) (.slice hp hl hroom hcap haddr);obtain⟨nc,w1,rest,g1,g2,g3,g4,g5,g6,g7,g8,_⟩:=grow (some a) c0 gm olds 0 rfl hlt o1 o3 o2;obtain⟨k1,k2⟩:=hr.zJ (w1:=w1) (e:=e) (VL.append o1 v1) g8 g3 g4 g5;refine⟨_,_,_,g6,?_,k1,k2⟩;exact .slice (cC _ _ _) g1 (by simp only[g7];omega) (λx hx=>by cases hx) (.inl rfl)
         ·rw[hle,ab] at ha4;have hle:=eu hle
          cases hst2:h.store id (off+len*i.size) cs with
          | none=>simp[hst2] at ha4
          | some h9=>
           simp only[hst2,af,Option.some.injEq,Prod.mk.injEq] at ha4;obtain⟨rfl,rfl⟩:=ha4;have haddr:=haddr.resolve_right (by omega);subst haddr;obtain⟨w',s1,s2,s3⟩:=hr.jY (P:=P) hst2 hp v1;refine⟨σ,.slice (some ⟨p.b,p.d+off,none⟩) (len+n) c0,w',?_,.slice hp hle hroom hcap (.inl rfl),s2,s3⟩;rw[ek h0 h1 h2 h3 hst hi rfl q4 (v3 w rfl) hn6 hle];simp only[dJ];rw[bw,s1];rfl
        ·split at ha4
         ·rename_i bs aX ho;obtain⟨hlb,ha5⟩:=aw ha4;clear ha4;have hlb:=eu hlb;obtain⟨hone,ha6⟩:=aw ha5;clear ha5;simp only[Option.some.injEq,Prod.mk.injEq] at ha6;obtain⟨rfl,rfl⟩:=ha6;obtain⟨_,_,_,a4,_⟩:=gQ hr ho;obtain⟨q',carr,e',hq',b1,b2,b3,b4⟩:=hr.cells ho;rw[hp] at hq';cases hq'
          have hsc:h.chunk id off (len*i.size)=some ((bs.drop off).take (len*i.size)):=by
           simp[H.chunk,ho,cP hlb]
          obtain⟨olds,o1,o2,o3⟩:=hr.chunk hsc hp;by_cases hin:len+n<=c
          ·have haddr:=haddr.resolve_right (by omega);subst haddr;have hmul:(len+n)*i.size<=c*i.size:=b6 _ hin;have hmul2:(len+n)*i.size=len*i.size+n*i.size:=ce _ _ _;obtain⟨w',c',hrun,hw',hsz,hget,hoth,s1,s2,s3,s4⟩:=gE (P:=P) (o:=p.d+off+len*i.size) vs 0 w carr b1 (by omega) (v1.fz hone)
           have hcl:∀j:Nat,j<off+len*i.size->c'[p.d+j]?=carr[p.d+j]?:=by
            intro j hj;rw[hget,ul (by omega)]
           obtain⟨k1,k2⟩:=hr.fork (w':=w') (k:=off+len*i.size) (cs':=(bs.drop off).take (len*i.size)++cs) (q:=⟨p.b,p.d+off,p.r-off⟩) ho hp (.inl rfl)
            (by
             refine⟨c',e',hw',by rw[hsz];exact b2,by simp;omega,?_⟩;intro j aj haj;rw[a9] at haj;split at haj
             ·rename_i hj;obtain⟨vj,e1,e2⟩:=b4 j aj haj;exact⟨vj,by rw[hcl j hj];exact e1,e2⟩
             ·cases haj)
            (by
             refine⟨c',e',hw',by rw[hsz];simp only;omega,by simp only[List.length_append,o2,v2];omega,?_⟩;intro j aj haj;rw[ba,o2] at haj;have hle':=gM (p:=⟨p.b,p.d+off,p.r-off⟩) (hr.fresh h.next (al _));split at haj
             ·rename_i hj;rw[a9,t8 hj,bv] at haj;obtain⟨vj,e1,e2⟩:=b4 _ aj haj;exact⟨vj,by simp only;rw[show p.d+off+j=p.d+(off+j) by omega,hcl _ (by omega)];exact e1,e2.mono hle'⟩
             ·rename_i hj;obtain⟨vj,e1,e2⟩:=v1.get haj;have hjl:=ft e1;refine⟨vj,?_,e2.mono hle'⟩;simp only;rw[hget,t8 (by omega),show p.d+off+j-(p.d+off+len*i.size+0)=j-len*i.size by omega]
              exact e1)
            (λb _ hb=>hoth b hb) (by omega) s2 s3 s4
           refine⟨_,.slice (some ⟨p.b,p.d+off,none⟩) (len+n) c,w',?_,?_,k1,k2⟩
           ·rw[ek h0 h1 h2 h3 hst hi rfl q4 (v3 w rfl) hn6 hin];simp only[dJ];rw[hrun];rfl
           ·rw[a4];exact .slice (cC _ _ _) hin (by simp only;omega) (λx hx=>by cases hx) (.inl (by simp))
          ·have hlt:c<len+n:=by omega
           have hfc:∀w',w'.heap=w.heap->(Builtin.firstCells i.size len (.slice (some a) len c)).run P w'=.ok olds.toArray w':=by
            intro w' hww;by_cases hl0:len=0
            ·subst hl0
             have:olds=[]:=by
              have:=o1.1;rw[o2] at this;simp at this;exact b0 this.symm
             subst this;simp[Builtin.firstCells,loadCells,loadCellsFrom]
            ·have haddr:=haddr.resolve_right (by omega);subst haddr
             have el:len*i.size=olds.length:=by rw[<-o1.1];exact o2.symm
             simp only[Builtin.firstCells];rw[el]
             exact ig λj vj hj=>by rw[<-o3 j vj hj];simp[World.cell?,hww]
           obtain⟨nc,w1,rest,g1,g2,g3,g4,g5,g6,g7,g8,_⟩:=grow (some a) c _ olds 0 rfl hlt o1 hfc o2;have hor:=xg (id:=aX) (b:=w.heap.size) (e:=e) (VL.append (o1.mono (gM (p:=⟨w.heap.size,0,(olds.toArray++vs.toArray++rest).size⟩) (hr.fresh h.next (al _)))) (v1.mono (gM (hr.fresh h.next (al _))))) g8;have hltp:=hr.lt ho hp
           obtain⟨k1,k2⟩:=hr.fork (w':={ w1 with heap:=w.heap.push (.cells (olds.toArray++vs.toArray++rest) e (0,0)) }) (k:=off+len*i.size) (q:=⟨w.heap.size,0,(olds.toArray++vs.toArray++rest).size⟩) ho hp (.inr (al _))
            (by
             simp only[cb];rw[ul (by omega),b1];refine⟨carr,e',rfl,b2,by simp;omega,?_⟩;intro j aj haj;rw[a9] at haj;split at haj
             ·exact b4 j aj haj
             ·cases haj)
            (by simpa using hor)
            (λb hb _=>by simp only[cb];rw[ul (by omega)]) (by simp) g3 g4 g5
           refine⟨_,_,_,g6,?_,k1,k2⟩;rw[a4];exact .slice (cC _ _ _) g1 (by simp only[g7];omega) (λx hx=>by cases hx) (.inl rfl)
         ·simp at ha4
     ·rw[hn0,ab] at ha2;have:=bD hn0;subst this;simp only[Option.some.injEq,Prod.mk.injEq] at ha2;obtain⟨rfl,rfl⟩:=ha2
      have hvs:vs=[]:=by
       rw[v2] at hvl;simp at hvl;exact b0 hvl.symm
      subst hvs;refine⟨σ,v,w,?_,hv,hr,.refl _ _ _⟩
      cases hv with
      | eb hl0=>
       subst hl0;rw[ek h0 h1 h2 h3 hst hi rfl q4 (v3 w rfl) (by omega) (by omega)]
      | slice hp hl hroom hcap haddr=>
       rw[ek h0 h1 h2 h3 hst hi rfl q4 (v3 w rfl) (by omega) (by omega)];simp[storeCells]
 ·simp at ha
end
end Go.Ev
