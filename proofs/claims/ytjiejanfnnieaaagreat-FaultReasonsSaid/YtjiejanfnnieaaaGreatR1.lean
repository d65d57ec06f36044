/- Lemmas of this claim, each with its conditions. -/
import Derived.RangeFuncLeaves
import Derived.LoopNIn
import Derived.Laws.Cells
import Derived.Laws.StructEq
set_option linter.all false
open Nat (beq ble blt div lor mod)
open List (all_eq_true range')
open Bool renaming and_eq_true -> aa, false_eq_true -> af, not_true -> bv, or_eq_true -> b7, not_false -> ch
open Nat renaming le_refl -> ac, lt_of_lt_of_le -> al, le_trans -> ay, lt_or_ge -> aT, add_assoc -> bc, mul_le_mul_right -> bi, mul_le_mul -> bw, add_mul -> b5, add_sub_cancel -> b9, sub_zero -> cn, succ_mul -> co
open List renaming getElem?_eq_none -> ad, getElem?_take -> am, getElem?_append -> ap, getElem?_cons_succ -> ax, getElem?_drop -> bb, eq_nil_of_length_eq_zero -> be, getElem?_map -> bh, getElem?_range -> bt, mapM_cons -> bN, forIn_cons -> b8, map_cons -> cb, range'_succ -> ce, all_cons -> cl, length -> ct
open Array renaming getElem?_eq_getElem -> a0, getElem?_setIfInBounds -> a9, getElem?_modify -> bq, getElem?_push -> bF, range -> ca, toList_push -> cc
open Int renaming toNat_natCast -> ba, ofNat -> b0, natCast_mul -> b6, natCast_pow -> cd
open Option renaming getD_some -> ci
namespace Go
def ww{p : Prop}[Decidable p](h : decide p = true) : p:=of_decide_eq_true h
def wt{p : Prop}[Decidable p](h : decide p = false) : ¬p:=of_decide_eq_false h
def wp{p : Prop}[Decidable p] : (decide p = true) = p:=decide_eq_true_eq
def wn{p : Prop}{_ : Decidable p} : (decide p = false) ↔ ¬p:=decide_eq_false_iff_not
def wl{p : Prop}[Decidable p](h : p) : decide p = true:=decide_eq_true h
def wd{p : Prop}[Decidable p](h : ¬p) : decide p = false:=decide_eq_false h
def v6.{u}{c : Prop}{h : Decidable c}(k : ¬c){α : Sort u}{t e : α} : ite c t e = e:=if_neg k
def ut.{u}{c : Prop}{h : Decidable c}(k : c){α : Sort u}{t e : α} : ite c t e = t:=if_pos k
noncomputable def un.{v}{a : Prop}{b : Sort v}(h1 : a)(h2 : ¬a) : b:=absurd h1 h2
def ul.{u,v}{α : Type u}{β : Type v}{o : Option α}{f : α -> Option β}{b : β}(h : o.bind f = some b) : ∃ a, o = some a /\ f a = some b:=Option.bind_eq_some_iff.1 h
def t8.{u}{α : Type u}{l : List α}(h : l.length = 0) : l = []:=List.length_eq_zero_iff.1 h
def t7.{u}{α : Type u}{a b : α}{l : List α}(h : a ∈ b :: l) : a = b \/ a ∈ l:=List.mem_cons.1 h
def t6.{u}{α : Type u}{a b : α}(h : a ∈ [b]) : a = b:=List.mem_singleton.1 h
def rx.{u}{α : Type u}{a b : α}(h : a = b) : a ∈ [b]:=List.mem_singleton.2 h
def rt.{u}{α : Type u}{l : List α}{i : Nat}{a : α}(h : l[i]? = some a) : ∃ h : i < l.length, l[i] = a:=List.getElem?_eq_some_iff.1 h
def rc.{u,v}{α : Sort u}{β : Sort v}{a b : α}(f : α -> β)(h : a = b) : f a = f b:=congrArg f h
def qr:=@Option.some.injEq
def pp:=@Result.andThen_ok
def ne:=@Sem.run_bind
def m9:=@Sem.run_pure
def m8:=@Prod.mk.injEq
def m7:=@Option.bind_some
def m6:=@Option.map_some
def mt:=@List.cons.injEq
def md:=@Nat.le_of_ble_eq_true
def li:=@List.length_append
def jp:=@List.getElem?_eq_getElem
def i7:=@List.length_cons
def i5:=@List.length_nil
def i4{p : Prop}(h : p:=by omega) : p:=h
def ii{p : Prop}(h : p:=by rfl) : p:=h
def g9{p : Prop}(h : p:=by decide) : p:=h
def gt{p : Prop}(h : p:=by intro h;cases h) : p:=h
def ge{p : Prop}(h : p:=by simp) : p:=h
def gc{p : Prop}(h : p:=by exact λ_=>rfl) : p:=h
end Go
namespace Go.Ev
abbrev Sd:Nat:=3
abbrev vF:Nat:=14
abbrev KF:Nat:=2
abbrev Q5:Nat:=194
abbrev Q6:Nat:=198
noncomputable section
inductive AV where
 | bool (b:Bool)
 | int (k:IntKind) (n:Int)
 | str (s:List Nat)
 | ptr (o:Option (Nat×Nat))
 | slice (o:Option (Nat×Nat)) (len esz:Nat) (cap:Option Nat)
 | map (o:Option Nat)
 | fn (f:Fn) (first cap:List AV)
 | ej
 | iface (t:TypeId) (v:AV)
 | xk
 | any
 | agg (cs:List AV)
 | cx (vs:List AV)
 deriving Inhabited
def AV.cells:AV->List AV
 | .agg cs=>cs
 | v=>[v]
def lV:AV:=.cx []
inductive Tr (α:Type) where
 | nil
 | node (v:Option α) (l r:Tr α)
 deriving Inhabited
variable{α:Type}
def Tr.get(t:Tr α):Nat->Option α:=
 Tr.rec (motive:=λ_=>Nat->Option α) (λ_=>none) (λv _ _ l r k=>Bool.rec (Bool.rec (r (div (Nat.sub k 1) 2)) (l (div (Nat.sub k 1) 2)) (beq (mod k 2) 1)) v (beq k 0)) t
def Tr.lone(x:Option α)(fuel:Nat):Nat->Tr α:=
 Nat.rec (motive:=λ_=>Nat->Tr α) (λ_=>.nil) (λ_ f k=>Bool.rec (Bool.rec (.node none .nil (f (div (Nat.sub k 1) 2))) (.node none (f (div (Nat.sub k 1) 2)) .nil) (beq (mod k 2) 1)) (.node x .nil .nil) (beq k 0)) fuel
def Tr.put(t:Tr α)(k:Nat)(x:Option α):Tr α:=
 Tr.rec (motive:=λ_=>Nat->Tr α) (λk=>Tr.lone x (Nat.succ k) k)
  (λv l r pl pr k=>Bool.rec (Bool.rec (.node v l (pr (div (Nat.sub k 1) 2))) (.node v (pl (div (Nat.sub k 1) 2)) r) (beq (mod k 2) 1)) (.node x l r) (beq k 0)) t k
structure jG where
 fn:Option Fn
 Fe:Nat
 args:List AV
 cap:List AV
 deriving Inhabited
inductive AO where
 | cells (cs:List AV) (bX:Nat)
 | ro (cs:List AV)
 | map (es:List (AV×AV×Nat)) (clock:Nat)
 | K7 (s:List Nat) (pos:Nat)
 | jd (m:Option Nat) (since:Nat) (seen:List Nat) (stepped:Nat)
 | loop (st:LoopState) (pending:Option Code) (t:Tr AV) (n:Nat) (params:Array Tmp) (assign body:Code) (mA:Nat)
 | mA (taken:Bool)
 deriving Inhabited
structure H where
 aW:Tr AO
 dC:Tr (Nat×Nat)
 next:Nat
 low:Nat
 deriving Inhabited
def hY(a b:Nat):Nat:=cond (ble a b) a b
structure St where
 t:Tr AV
 n:Nat
 h:H
 ds:List jG
 deriving Inhabited
abbrev R(α:Type):=Option (List α)
def R8{α β:Type}(f:α->R β):List α->R β
 | []=>some []
 | [x]=>f x
 | x::xs=>match f x,R8 f xs with
  | some a,some b=>some (a++b)
  | _,_=>none
def RX{β:Type}(r:R α)(f:α->R β):R β:=match r with
 | some l=>R8 f l
 | none=>none
def one(x:α):R α:=some [x]
def lZ:Nat->Value->Option AV
 | 0,_=>none
 | n+1,v=>match v with
  | .bool b=>some (.bool b)
  | .int k n=>some (.int k n)
  | .string s=>some (.str (s.data.toList.map (·.toNat)))
  | .pointer none=>some (.ptr none)
  | .slice none 0 0=>some (.slice none 0 0 (some 0))
  | .map none=>some (.map none)
  | .nilFunc=>some .ej
  | .nilIface=>some .xk
  | .agg cs=>(cs.toList.mapM (lZ n)).map .agg
  | .tuple cs=>(cs.toList.mapM (lZ n)).map .cx
  | .iface t v=>(lZ n v).map (.iface t)
  | _=>none
def mP:Nat:=6
def sj(a b:Int):Bool:=match b-a with
 | .ofNat _=>true
 | .negSucc _=>false
def L4:IntKind->Int
 | .i8 => -128 | .i16 => -32768 | .i32 => -2147483648 | .i64 => -9223372036854775808 | _=>0
def LU:IntKind->Int
 | .i8=>127 | .i16=>32767 | .i32=>2147483647 | .i64=>9223372036854775807
 | .u8=>255 | .u16=>65535 | .u32=>4294967295 | .u64=>18446744073709551615
def dO(k:IntKind)(n:Int):Int:=cond (sj (L4 k) n&&sj n (LU k)) n (k.wrap n)
def QE(a b:Int):Bool:=sj a b&&sj b a
def ve:List Nat->List Nat->Bool
 | [],[]=>true
 | a::x,b::y=>beq a b&&ve x y
 | _,_=>false
def fF:List Nat->List Nat->Bool
 | _,[]=>false
 | [],_::_=>true
 | a::x,b::y=>blt a b||(beq a b&&fF x y)
def A0(a b:IntKind):Bool:=match a,b with
 | .i8,.i8 | .i16,.i16 | .i32,.i32 | .i64,.i64 | .u8,.u8 | .u16,.u16 | .u32,.u32 | .u64,.u64=>true
 | _,_=>false
def cF(P:Program)(t:TypeId):Option Nat:=(P.info? t).map (·.size)
def qO(P:Program)(t:TypeId):Option Bool:=(P.underlying t).map λ
 | .struct _ | .array _ _=>true
 | _=>false
def di(P:Program)(t:TypeId):Option AV:=(P.info? t).bind λi=>i.zero.bind (lZ mP)
def e9(P:Program)(t:TypeId)(cs:List AV)(off:Nat):Option AV:=
 match qO P t with
 | some true=>(cF P t).bind λn=>cond (ble (off+n) cs.length) (some (.agg ((cs.drop off).take n))) none
 | some false=>cs[off]?
 | none=>none
def eqFields(P:Program)(eq:TypeId->AV->AV->Option Bool):List Field->List AV->List AV->Option Bool
 | [],_,_=>some true
 | f::fs,xs,ys=>
  cond (f.name== "_") none
   (
    match e9 P f.type xs f.offset,e9 P f.type ys f.offset with
    | some a,some b=>match eq f.type a b with
     | some true=>eqFields P eq fs xs ys
     | r=>r
    | _,_=>none)
def tw(P:Program)(eq:AV->AV->Option Bool)(e s:Nat)(xs ys:List AV):Nat->Nat->Option Bool
 | 0,_=>some true
 | m+1,i=>match e9 P e xs (i*s),e9 P e ys (i*s) with
  | some a,some b=>match eq a b with
   | some true=>tw P eq e s xs ys m (i+1)
   | r=>r
  | _,_=>none
def lG(P:Program):Nat->TypeId->AV->AV->Option Bool
 | 0,_,_,_=>none
 | d+1,t,x,y=>
  match P.underlying t,x,y with
  | some .bool,.bool a,.bool b=>some (a==b)
  | some (.int _),.int k a,.int k' b=>cond (A0 k k') (some (QE a b)) none
  | some .string,.str a,.str b=>some (ve a b)
  | some (.pointer _),.ptr none,.ptr b=>some b.isNone
  | some (.pointer _),.ptr (some _),.ptr none=>some false
  | some (.slice _),.slice none _ _ _,.slice b _ _ _=>some b.isNone
  | some (.slice _),.slice (some _) _ _ _,.slice none _ _ _=>some false
  | some (.map _ _),.map none,.map b=>some b.isNone
  | some (.map _ _),.map (some _),.map none=>some false
  | some (.func _ _ _),.ej,.ej=>some true
  | some (.func _ _ _),.ej,.fn ..=>some false
  | some (.func _ _ _),.fn ..,.ej=>some false
  | some (.struct fs),.agg xs,.agg ys=>
   cond (P.stoodInHeld t) none (eqFields P (lG P d) fs.toList xs ys)
  | some (.array n e),.agg xs,.agg ys=>(cF P e).bind λs=>tw P (lG P d e) e s xs ys n 0
  | _,_,_=>none
def fY(eq:AV->AV->Bool):List AV->List AV->Bool
 | [],[]=>true
 | x::xs,y::ys=>eq x y&&fY eq xs ys
 | _,_=>false
def gV:Nat->AV->AV->Bool
 | 0,_,_=>false
 | n+1,a,b=>match a,b with
  | .bool a,.bool b=>a==b
  | .int k a,.int k' b=>A0 k k'&&QE a b
  | .str a,.str b=>ve a b
  | .ptr none,.ptr none=>true
  | .ptr (some (a,b)),.ptr (some (c,d))=>beq a c&&beq b d
  | .slice (some (a,b)) l e c,.slice (some (a',b')) l' e' c'=>beq a a'&&beq b b'&&beq l l'&&beq e e'&&(match c,c' with | none,none=>true | some x,some y=>beq x y | _,_=>false)
  | .slice none l e (some c),.slice none l' e' (some c')=>beq l l'&&beq e e'&&beq c c'
  | .map none,.map none=>true
  | .map (some a),.map (some b)=>beq a b
  | .ej,.ej=>true
  | .xk,.xk=>true
  | .agg xs,.agg ys=>fY (gV n) xs ys
  | .cx xs,.cx ys=>fY (gV n) xs ys
  | .fn (.yield f) [] [],.fn (.yield f') [] []=>beq f f'
  | .fn (.func f) xs ys,.fn (.func f') xs' ys'=>beq f f'&&(fY (gV n) xs xs'&&fY (gV n) ys ys')
  | .iface t x,.iface t' y=>beq t t'&&gV n x y
  | .fn (.method f) xs ys,.fn (.method f') xs' ys'=>decide (f=f')&&(fY (gV n) xs xs'&&fY (gV n) ys ys')
  | _,_=>false
def mQ:AV->Bool
 | .bool _ | .int _ _ | .str _=>true
 | _=>false
def DW:AV->Bool
 | .agg cs=>cs.all mQ
 | v=>mQ v
def stays(k mE:AV):Bool:=DW k&&gV 3 k mE
def H.cellsOf(h:H)(id:Nat):Option (List AV×Nat):=match h.aW.get id with
 | some (.cells cs bX)=>some (cs,bX)
 | _=>none
def H.mX(h:H)(cs:List AV):Nat×H:=
 (h.next,{ h with aW:=h.aW.put h.next (some (.cells cs h.next)),dC:=h.dC.put h.next (some (h.next,h.next)),next:=h.next+1 })
def H.newObj(h:H)(o:AO):Nat×H:=(h.next,{ h with aW:=h.aW.put h.next (some o),next:=h.next+1 })
def H.alone(h:H)(id bX:Nat):H:=match h.dC.get bX with
 | some (x,y)=>
  cond (beq x id&&beq y id) h
   { h with aW:=cond (beq y id) (h.aW.put x none) (cond (beq x id) (h.aW.put y none) ((h.aW.put x none).put y none)),dC:=h.dC.put bX (some (id,id)),low:=hY h.low (hY x y) }
 | none=>h
def ki:AV->Bool
 | .agg _ | .cx _ | .any=>false
 | _=>true
def H.ep(h:H)(id bX:Nat)(mE new:List AV):H:=
 let h1:=h.alone id bX
 { aW:=(h1.aW.put id (some (.cells mE bX))).put h1.next (some (.cells new bX)),dC:=h1.dC.put bX (some (id,h1.next)),next:=h1.next+1,low:=hY h1.low id }
def H.store(h:H)(id off:Nat)(vs:List AV):Option H:=match h.aW.get id with
 | some (.cells cs bX)=>
  cond (ble (off+vs.length) cs.length&&vs.all ki)
   (
    let h1:=h.alone id bX
    some { h1 with aW:=h1.aW.put id (some (.cells (cs.take off++(vs++cs.drop (off+vs.length))) bX)),low:=hY h1.low id })
   none
 | _=>none
def H.chunk(h:H)(id off n:Nat):Option (List AV):=match h.aW.get id with
 | some (.cells cs _)=>cond (ble (off+n) cs.length) (some ((cs.drop off).take n)) none
 | some (.ro cs)=>cond (ble (off+n) cs.length) (some ((cs.drop off).take n)) none
 | _=>none
def H.load(P:Program)(h:H)(t:TypeId)(id off:Nat):Option AV:=match qO P t with
 | some true=>(cF P t).bind λn=>(h.chunk id off n).map .agg
 | some false=>match h.aW.get id with
  | some (.cells cs _)=>cs[off]?
  | some (.ro cs)=>cs[off]?
  | _=>none
 | none=>none
def H.storeVar(P:Program)(h:H)(t:TypeId)(id off:Nat)(v:AV):Option H:=
 (cF P t).bind λn=>cond (beq v.cells.length n) (h.store id off v.cells) none
def ev(t:Tr AV):Operand->Option AV
 | .tmp i=>some (match t.get i with | some v=>v | none=>lV)
 | .const v=>lZ mP v
 | .func f=>some (.fn (.func f) [] [])
 | .global _=>none
def N3(t:Tr AV)(y:Option Operand):Option (Option AV):=match y with
 | none=>some none
 | some y=>(ev t y).map some
def A7(t:Tr AV)(l:List Operand):Option (List AV):=l.mapM (ev t)
def km(place:Nat->Option (Nat×Nat))(cells:List AV):List (Nat×AV)->Option (List AV)
 | []=>some cells
 | (i,v)::rest=>match place i with
  | none=>none
  | some (off,size)=>
   cond (beq v.cells.length size&&ble (off+size) cells.length)
    (km place (cells.take off++(v.cells++cells.drop (off+size))) rest) none
def rep(zero:List AV):Nat->List AV
 | 0=>[]
 | n+1=>zero++rep zero n
def lP(t:Tr AV)(l:List (Nat×Operand)):Option (List (Nat×AV)):=l.mapM λp=>(ev t p.2).map λv=>(p.1,v)
def vH(P:Program)(fs:Array Field)(i:Nat):Option (Nat×Nat):=(fs[i]?).bind λf=>(cF P f.type).map λs=>(f.offset,s)
def va(P:Program)(t:TypeId)(parts:List (Nat×AV)):Option AV:=
 (di P t).bind λz=>match P.underlying t with
  | some (.struct fs)=>cond (fs.toList.all λf=>(cF P f.type).isSome) ((km (vH P fs) z.cells parts).map .agg) none
  | some (.array _ e)=>(cF P e).bind λs=>(km (λi=>some (i*s,s)) z.cells parts).map .agg
  | _=>none
def df:AV->Option Nat
 | .int _ (.ofNat n)=>some n
 | _=>none
def gR(P:Program)(t:TypeId)(len:Nat)(parts:List (Nat×AV)):Option (Nat×List AV):=
 match P.underlying t with
 | some (.slice e)=>
  (cF P e).bind λs=>(di P e).bind λz=>
   cond (ble (len*s) 16777216&&(beq z.cells.length s&&!(beq s 0)))
    ((km (λi=>some (i*s,s)) (rep z.cells len) parts).map λcs=>(s,cs))
    none
 | _=>none
def Db(op:BinOp)(a b:Int):Option AV:=match op with
 | .eql=>some (.bool (QE a b))
 | .neq=>some (.bool (!(QE a b)))
 | .lss=>some (.bool (!(sj b a)))
 | .leq=>some (.bool (sj a b))
 | .gtr=>some (.bool (!(sj a b)))
 | .geq=>some (.bool (sj b a))
 | _=>none
def QQ:Int->Bool
 | .ofNat n=>beq n 0
 | _=>false
def c8(P:Program)(op:BinOp)(t:TypeId)(x y:AV):Option AV:=
 match x,y with
 | .int k a,.int k' b=>
  match op with
  | .shl | .shr=>cond (sj 0 b&&sj b 64) (match op with
   | .shl=>some (.int k (dO k (a*((2^(min b.toNat k.bits):Nat):Int))))
   | _=>some (.int k (a.fdiv ((2^(min b.toNat k.bits):Nat):Int)))) none
  | _=>
  cond (A0 k k')
   (
    match op with
    | .add=>some (.int k (dO k (a+b)))
    | .sub=>some (.int k (dO k (a-b)))
    | .mul=>some (.int k (dO k (a*b)))
    | .quo=>cond (QQ b) none (some (.int k (dO k (a.tdiv b))))
    | .rem=>cond (QQ b) none (some (.int k (a.tmod b)))
    | .and | .or | .xor | .andNot=>none
    | _=>Db op a b) none
 | .str a,.str b=>match op with
  | .add=>cond (ble (a.length+b.length) 1000000) (some (.str (a++b))) none
  | .eql=>some (.bool (ve a b))
  | .neq=>some (.bool (!(ve a b)))
  | .lss=>some (.bool (fF a b))
  | .leq=>some (.bool (fF a b||ve a b))
  | .gtr=>some (.bool (!(fF a b||ve a b)))
  | .geq=>some (.bool (!(fF a b)))
  | _=>none
 | .xk,_=>none
 | x,y=>match op with
  | .eql=>cond (P.eqGuardType P.depth t) none ((lG P 8 t x y).map .bool)
  | .neq=>cond (P.eqGuardType P.depth t) none ((lG P 8 t x y).map λb=>.bool (!b))
  | _=>none
def TG(op:UnOp)(x:AV):Option AV:=match op,x with
 | .neg,.int k n=>some (.int k (dO k (0-n)))
 | .not,.bool b=>some (.bool (!b))
 | _,_=>none
def lf(P:Program)(src dst:TypeId)(x:AV):Option AV:=match P.underlying src,P.underlying dst,x with
 | some _,some (.int k),.int _ n=>some (.int k (dO k n))
 | some _,some .string,.str s=>some (.str s)
 | _,_,_=>none
def qm(len:Nat)(cap:Option Nat)(n:Nat):Bool:=ble n len||(match cap with | some c=>ble n c | none=>false)
def oP(len:Nat)(cap:Option Nat)(hi:Option AV):Option Nat:=match hi with
 | some v=>(df v).bind λh=>cond (qm len cap h) (some h) none
 | none=>some len
def cO(len:Nat)(cap:Option Nat)(lo hi mx:Option AV):Option (Nat×Nat×Option Nat):=
 match mx with
 | some v=>(df v).bind λm=>cond (qm len cap m)
  (
   match hi with
   | some v=>(df v).bind λh=>cond (ble h m)
    (
     match lo with
     | some v=>(df v).bind λl=>cond (ble l h) (some (l,h,some m)) none
     | none=>some (0,h,some m)) none
   | none=>none) none
 | none=>(oP len cap hi).bind λh=>match lo with
  | some v=>(df v).bind λl=>cond (ble l h) (some (l,h,cap)) none
  | none=>some (0,h,cap)
def bD:Option Nat->Nat->Option Nat
 | some c,l=>some (c-l)
 | none,_=>none
def vP(P:Program)(h:H)(t:TypeId)(x:AV)(lo hi mx:Option AV):Option AV:=
 match P.underlying t,x with
 | some (.array n e),.ptr (some (id,off))=>
  (cF P e).bind λs=>(cO n (some n) lo hi mx).bind λ(l,hh,m)=>match m with
   | some m=>match h.aW.get id with
    | some (.cells cs _)=>cond (ble (off+n*s) cs.length) (some (.slice (some (id,off+l*s)) (hh-l) s (some (m-l)))) none
    | _=>none
   | none=>none
 | some .string,.str s=>match mx with
  | some _=>none
  | none=>(cO s.length (some s.length) lo hi none).map λ(l,hh,_)=>.str ((s.drop l).take (hh-l))
 | some (.slice e),.slice o len es cap=>
  (cF P e).bind λs=>(cO len cap lo hi mx).bind λ(l,hh,m)=>match o with
   | none=>some (.slice none 0 0 (some 0))
   | some (id,off)=>cond (beq s es) (some (.slice (some (id,off+l*s)) (hh-l) s (bD m l))) none
 | _,_=>none
def kK(P:Program)(t:TypeId)(l c:AV):Option (Nat×Nat×Nat×List AV):=
 match P.underlying t with
 | some (.slice e)=>(df l).bind λl=>(df c).bind λc=>(P.info? e).bind λi=>(di P e).bind λz=>
  cond (ble l c&&(ble c 1000000&&(ble i.bytes 10000&&(beq z.cells.length i.size&&!(beq i.size 0)))))
   (some (l,i.size,c,rep z.cells c)) none
 | _=>none
def kF(P:Program)(t:TypeId)(x i:AV):Option AV:=
 (df i).bind λi=>match P.underlying t,x with
  | some (.array n e),.ptr (some (id,off))=>(cF P e).bind λs=>cond (blt i n) (some (.ptr (some (id,off+i*s)))) none
  | some (.slice e),.slice (some (id,off)) len es _=>(cF P e).bind λs=>cond (blt i len&&beq s es) (some (.ptr (some (id,off+i*s)))) none
  | _,_=>none
def vp(P:Program)(t:TypeId)(x i:AV):Option AV:=
 (df i).bind λi=>match P.underlying t,x with
  | some (.array n e),.agg cs=>(cF P e).bind λs=>cond (blt i n) (e9 P e cs (i*s)) none
  | some .string,.str s=>(s[i]?).map λb=>.int .u8 (b0 b)
  | _,_=>none
def jr(P:Program)(s:TypeId)(x:AV)(f:Nat):Option AV:=
 match P.underlying s,x with
 | some (.struct fs),.ptr (some (id,off))=>(fs[f]?).bind λfd=>(cF P fd.type).bind λn=>cond (beq n 0) none (some (.ptr (some (id,off+fd.offset))))
 | _,_=>none
def vg(P:Program)(s:TypeId)(x:AV)(f:Nat):Option AV:=
 match P.underlying s,x with
 | some (.struct fs),.agg cs=>(fs[f]?).bind λfd=>e9 P fd.type cs fd.offset
 | _,_=>none
def oK(P:Program)(ck:TypeId->AV->Bool):List Field->List AV->Bool
 | [],_=>true
 | f::fs,xs=>!(f.name== "_")&&((match e9 P f.type xs f.offset with | some a=>ck f.type a | none=>false)&&oK P ck fs xs)
def xI(P:Program)(ck:AV->Bool)(e s:Nat)(xs:List AV):Nat->Nat->Bool
 | 0,_=>true
 | m+1,i=>(match e9 P e xs (i*s) with | some a=>ck a | none=>false)&&xI P ck e s xs m (i+1)
def Fs(P:Program):Nat->TypeId->AV->Bool
 | 0,_,_=>false
 | d+1,t,x=>match P.underlying t,x with
  | some .bool,.bool _ | some (.int _),.int _ _ | some .string,.str _=>true
  | some (.struct fs),.agg xs=>oK P (Fs P d) fs.toList xs
  | some (.array n e),.agg xs=>match cF P e with
   | some s=>xI P (Fs P d e) e s xs n 0
   | none=>false
  | _,_=>false
def xg(P:Program)(t:TypeId)(k:AV):Bool:=Fs P 4 t k
def gW(P:Program)(kt:TypeId)(k:AV):List (AV×AV×Nat)->Nat->Option (Option Nat)
 | [],_=>some none
 | e::es,i=>match lG P 4 kt k e.1 with
  | some true=>some (some i)
  | some false=>gW P kt k es (i+1)
  | none=>none
def H.mapOf(h:H)(id:Nat):Option (List (AV×AV×Nat)×Nat):=match h.aW.get id with
 | some (.map es c)=>some (es,c)
 | _=>none
def H.set(h:H)(id:Nat)(o:AO):H:={ h with aW:=h.aW.put id (some o),low:=hY h.low id }
def dw(P:Program)(t:TypeId):Option (TypeId×TypeId):=match P.underlying t with
 | some (.map k e)=>some (k,e)
 | _=>none
def setAt(x:AV×AV×Nat):List (AV×AV×Nat)->Nat->List (AV×AV×Nat)
 | [],_=>[]
 | _::es,0=>x::es
 | e::es,i+1=>e::setAt x es i
def rN(P:Program)(h:H)(t:TypeId)(x k:AV)(ok:Bool):Option AV:=
 (dw P t).bind λ(kt,et)=>cond (xg P kt k)
  (let es:Option (List (AV×AV×Nat)):=match x with
   | .map none=>some []
   | .map (some id)=>(h.mapOf id).map (·.1)
   | _=>none
   es.bind λes=>(gW P kt k es 0).bind λr=>
    let v:Option (AV×Bool):=match r with
     | some i=>(es[i]?).map λe=>(e.2.1,true)
     | none=>(di P et).map λz=>(z,false)
    v.map λ(v,b)=>cond ok (.cx [v,.bool b]) v) none
def kL(P:Program)(h:H)(t:TypeId)(x k v:AV):Option H:=
 (dw P t).bind λ(kt,_)=>cond (xg P kt k)
  (
   match x with
   | .map (some id)=>(h.mapOf id).bind λ(es,c)=>(gW P kt k es 0).bind λr=>match r with
    | some i=>(es[i]?).bind λe=>cond (stays k e.1) (some (h.set id (.map (setAt (k,v,e.2.2) es i) c))) none
    | none=>some (h.set id (.map (es++[(k,v,c)]) (c+1)))
   | _=>none) none
def vB(P:Program)(h:H)(t:TypeId)(x k:AV):Option (AV×H):=
 (dw P t).bind λ(kt,et)=>cond (xg P kt k)
  (
   match x with
   | .map (some id)=>(h.mapOf id).bind λ(es,c)=>(gW P kt k es 0).bind λr=>match r with
    | some i=>(es[i]?).bind λe=>cond (stays k e.1) (some (.cx [e.2.1,.int .i64 (b0 e.2.2)],h.set id (.map (setAt (k,e.2.1,e.2.2) es i) c))) none
    | none=>(di P et).map λz=>(.cx [z,.int .i64 (b0 c)],h.set id (.map (es++[(k,z,c)]) (c+1)))
   | _=>none) none
def kC(b:Nat):List (AV×AV×Nat)->Nat->Option Nat
 | [],_=>none
 | e::es,i=>cond (beq e.2.2 b) (some i) (kC b es (i+1))
def qF(h:H)(x stamp v:AV):Option H:=match x with
 | .map (some id)=>(h.mapOf id).bind λ(es,c)=>(df stamp).bind λb=>(kC b es 0).bind λi=>(es[i]?).map λe=>h.set id (.map (setAt (e.1,v,e.2.2) es i) c)
 | _=>none
def vK(P:Program)(h:H)(t:TypeId)(x:AV):Option (AV×H):=match P.underlying t,x with
 | some .string,.str s=>let (id,h):=h.newObj (.K7 s 0);some (.ptr (some (id,0)),h)
 | some (.map _ _),.map none=>let (id,h):=h.newObj (.jd none 0 [] 0);some (.ptr (some (id,0)),h)
 | some (.map _ _),.map (some m)=>(h.mapOf m).map λ(_,c)=>let (id,h):=h.newObj (.jd (some m) c [] c);(.ptr (some (id,0)),h)
 | _,_=>none
def seenIn(b:Nat):List Nat->Bool
 | []=>false
 | x::xs=>beq x b||seenIn b xs
def qB(h:H)(id m since:Nat)(seen:List Nat)(clock:Nat)(mE new:List (AV×AV×Nat)):List (AV×H):=
 (cond mE.isEmpty [(.cx [.bool false],h)] [])++(mE++new).map λe=>(.cx [.bool true,e.1,e.2.1],h.set id (.jd (some m) since (seen++[e.2.2]) clock))
def zI(h:H)(x:AV)(isString:Bool):R (AV×H):=match x with
 | .ptr (some (id,0))=>match h.aW.get id,isString with
  | some (.jd none _ _ _),false=>one (.cx [.bool false],h)
  | some (.jd (some m) since seen last),false=>(h.mapOf m).bind λ(es,clock)=>
   cond (!seen.isEmpty&&(!es.isEmpty&&es.all (λe=>ble last e.2.2))) none
    (some (qB h id m since seen clock ((es.filter λe=>!(seenIn e.2.2 seen)).filter λe=>blt e.2.2 since) ((es.filter λe=>!(seenIn e.2.2 seen)).filter λe=>!(blt e.2.2 since))))
  | _,_=>none
 | _=>none
def vd(h:H)(x:AV):Option AV:=match x with
 | .ptr (some (id,0))=>match h.aW.get id with
  | some (.jd (some m) _ seen stepped)=>match seen.getLast? with
   | some stamp=>(h.mapOf m).bind λ(es,c)=>cond (beq c stepped)
    ((kC stamp es 0).bind λi=>(es[i]?).map λe=>.cx [e.1,e.2.1]) none
   | none=>none
  | _=>none
 | _=>none
def cG(h:H)(o:Option (Nat×Nat))(n es:Nat):Option (List AV):=match o with
 | none=>cond (beq n 0) (some []) none
 | some (id,off)=>cond (beq n 0) (some []) (h.chunk id off (n*es))
def my(P:Program)(h:H)(e s:Nat)(xt:TypeId)(x:AV):Option (Nat×List AV):=
 match P.underlying xt with
 | some (.int _)=>(df x).bind λn=>(di P e).bind λz=>cond (ble n 1000000&&beq z.cells.length s) (some (n,rep z.cells n)) none
 | some _=>match x with
  | .slice o n es _=>cond (beq es s||beq n 0) ((cG h o n s).map λcs=>(n,cs)) none
  | _=>none
 | none=>none
def tf(P:Program)(h:H)(st xt:TypeId)(x y:AV):Option (AV×H):=
 match P.underlying st,x with
 | some (.slice e),.slice o len es cap=>(P.info? e).bind λi=>(di P e).bind λz=>
  cond (beq z.cells.length i.size&&(!(beq i.size 0)&&(ble len 1000000&&ble i.bytes 10000)))
   (
    (my P h e i.size xt y).bind λ(n,cs)=>
    cond (beq n 0) (some (x,h))
     (cond (ble n 1000000)
      (
       match o with
       | none=>
        let (id,h):=h.mX cs
        some (.slice (some (id,0)) n i.size none,h)
       | some (id,off)=>cond (beq es i.size)
        (
         match cap with
         | some c=>cond (ble (len+n) c)
          ((h.store id (off+len*es) cs).map λh=>(.slice o (len+n) es cap,h))
          ((
           cG h o len es).map λmE=>
           let (id,h):=h.mX (mE++cs)
           (.slice (some (id,0)) (len+n) es none,h))
         | none=>match h.aW.get id with
          | some (.cells bs bX)=>cond (ble (off+len*es) bs.length)
           (cond (cs.all ki) (some (.slice (some ((h.alone id bX).next,0)) (len+n) es none,
            h.ep id bX (bs.take (off+len*es)) ((bs.drop off).take (len*es)++cs))) none) none
          | _=>none) none) none)) none
 | _,_=>none
def Ft(P:Program)(h:H)(dt:TypeId)(x y:AV):Option (AV×H):=match P.underlying dt,x,y with
 | some (.slice e),.slice o dl des _,.slice o' sl ses _=>(cF P e).bind λs=>
  let n:=Nat.min sl dl
  cond (beq n 0) (some (.int .i64 0,h))
   (cond (beq des s&&beq ses s)
    ((
     cG h o' n s).bind λcs=>match o with
     | some (id,off)=>(h.store id off cs).map λh=>(.int .i64 (b0 n),h)
     | none=>none) none)
 | _,_,_=>none
def F9(P:Program)(h:H)(t:TypeId)(x:AV):Option AV:=
 (
  (match P.underlying t,x with
  | some .string,.str s=>some s.length
  | some (.array n _),_=>some n
  | some (.slice _),.slice _ n _ _=>some n
  | some (.map _ _),.map none=>some 0
  | some (.map _ _),.map (some id)=>(h.mapOf id).map λm=>m.1.length
  | _,_=>none):Option Nat).map λn=>.int .i64 (b0 n)
def zF(isMax:Bool)(x y:AV):Option AV:=match x,y with
 | .int k a,.int _ b=>some (.int k (cond isMax (cond (sj b a) a b) (cond (sj a b) a b)))
 | .str a,.str b=>some (.str (cond isMax (cond (fF a b) b a) (cond (fF a b||ve a b) a b)))
 | _,_=>none
def nL(isMax:Bool):AV->List AV->Option AV
 | x,[]=>some x
 | x,y::l=>(zF isMax x y).bind λz=>nL isMax z l
def tu(P:Program)(h:H)(t:TypeId)(x k:AV):Option (AV×H):=
 (dw P t).bind λ(kt,_)=>cond (xg P kt k)
  (
   match x with
   | .map none=>some (.cx [],h)
   | .map (some id)=>(h.mapOf id).bind λ(es,c)=>(gW P kt k es 0).map λr=>match r with
    | some i=>(.cx [],h.set id (.map (es.eraseIdx i) c))
    | none=>(.cx [],h)
   | _=>none) none
def yu(P:Program)(h:H)(t:TypeId)(x:AV):Option (AV×H):=match P.underlying t,x with
 | some (.slice _),.slice none _ _ _=>some (.cx [],h)
 | some (.slice e),.slice (some (id,off)) n es _=>(cF P e).bind λs=>(di P e).bind λz=>
  cond (beq n 0) (some (.cx [],h)) (cond (beq s es&&beq z.cells.length s) ((h.store id off (rep z.cells n)).map λh=>(.cx [],h)) none)
 | _,_=>none
def mM(P:Program)(h:H)(b:Builtin)(ats:List TypeId)(xs:List AV):Option (AV×H):=match b,ats,xs with
 | .append,st::xt::_,[x,y]=>tf P h st xt x y
 | .len,t::_,x::_=>(F9 P h t x).map λv=>(v,h)
 | .cap,t::_,[.slice _ _ _ (some c)]=>match P.underlying t with
  | some (.slice _)=>some (.int .i64 (b0 c),h)
  | _=>none
 | .copy,dt::_,x::y::_=>Ft P h dt x y
 | .min,_,x::l=>(nL false x l).map λv=>(v,h)
 | .max,_,x::l=>(nL true x l).map λv=>(v,h)
 | .delete,t::_,x::k::_=>tu P h t x k
 | .clear,t::_,x::_=>yu P h t x
 | _,_,_=>none
def jn(P:Program)(t:TypeId)(name:String):Option FuncId:=(P.info? t).bind λi=>
 (i.methods.find? (·.name==name)).bind λm=>match m.path.isEmpty,m.func with
  | true,some (f,false)=>match P.underlying t with
   | some (.struct _) | some (.int _) | some .string | some (.slice _)=>some f
   | _=>none
  | _,_=>none
def oY(P:Program)(x:AV):Option AV:=match x with
 | .ptr (some _)=>some x
 | .fn (.func _) _ _=>some x
 | .fn (.method name) [.iface t _] _=>(jn P t name).map λ_=>x
 | .slice ..=>some x
 | _=>none
def pC(P:Program)(t:Tr AV)(o:Op)(id:Nat):Option (AV×AO):=match o with
 | .alloc e=>(di P e).map λz=>(.ptr (some (id,0)),.cells z.cells id)
 | .box _ x=>(ev t x).map λx=>(.ptr (some (id,0)),.cells x.cells id)
 | .buildSlice tt n ps=>(lP t ps.toList).bind λps=>(gR P tt n ps).map λ(s,cs)=>(.slice (some (id,0)) n s (some n),.cells cs id)
 | .makeMap tt r=>match r with
  | none=>some (.map (some id),.map [] 0)
  | some x=>match ev t x,dw P tt with
   | some (.int _ _),some _=>some (.map (some id),.map [] 0)
   | _,_=>none
 | .makeSlice tt l c=>(ev t l).bind λl=>(ev t c).bind λc=>(kK P tt l c).map λ(l,s,c,cs)=>(.slice (some (id,0)) l s (some c),.cells cs id)
 | _=>none
def QP:Op->Bool
 | .alloc _ | .box _ _ | .buildSlice _ _ _ | .makeMap _ _ | .makeSlice _ _ _=>true
 | _=>false
def H.lay(h:H)(id:Nat)(o:AO):H:=match o with
 | .cells _ _=>{ h with aW:=h.aW.put id (some o),dC:=h.dC.put id (some (id,id)) }
 | _=>{ h with aW:=h.aW.put id (some o) }
def eB(P:Program)(t:Tr AV)(h:H)(o:Op):R (Option AV×H):=
 let v (r:Option AV):R (Option AV×H):=r.map λx=>[(some x,h)]
 let vh (r:Option (AV×H)):R (Option AV×H):=r.map λx=>[(some x.1,x.2)]
 let u (r:Option H):R (Option AV×H):=r.map λx=>[(none,x)]
 match o with
 | .move x | .assign x=>v (ev t x)
 | .pick c a b=>(ev t a).bind λa=>(ev t b).bind λb=>match ev t c with
  | some (.bool true)=>v (some a)
  | some (.bool false)=>v (some b)
  | _=>none
 | .alloc _ | .box _ _ | .buildSlice _ _ _ | .makeMap _ _ | .makeSlice _ _ _=>
  vh ((pC P t o h.next).map λ(v,ob)=>(v,{ h.lay h.next ob with next:=h.next+1 }))
 | .build tt ps=>v ((lP t ps.toList).bind λps=>va P tt ps)
 | .load tt a=>match ev t a with
  | some (.ptr (some (id,off)))=>v (h.load P tt id off)
  | _=>none
 | .store tt a x=>match ev t a,ev t x with
  | some (.ptr (some (id,off))),some x=>u (h.storeVar P tt id off x)
  | _,_=>none
 | .nilCheck x=>v ((ev t x).bind (oY P))
 | .binOp op xt x y _=>v ((ev t x).bind λx=>(ev t y).bind λy=>c8 P op xt x y)
 | .unOp op _ x=>v ((ev t x).bind (TG op))
 | .convert s d x=>v ((ev t x).bind (lf P s d))
 | .makeInterface xt x=>match P.underlying xt with
  | some (.interface _)=>none
  | some _=>v ((ev t x).map λx=>.iface xt x)
  | none=>none
 | .makeFunc f first cap=>match f with
  | .yield _=>none
  | f=>v ((A7 t first.toList).bind λa=>(A7 t cap.toList).map λb=>.fn f a b)
 | .slice tt x lo hi mx=>v ((ev t x).bind λx=>(N3 t lo).bind λlo=>(N3 t hi).bind λhi=>(N3 t mx).bind λmx=>vP P h tt x lo hi mx)
 | .fieldAddr s x f=>v ((ev t x).bind λx=>jr P s x f)
 | .field s x f=>v ((ev t x).bind λx=>vg P s x f)
 | .indexAddr tt x i=>v ((ev t x).bind λx=>(ev t i).bind λi=>kF P tt x i)
 | .index tt x i=>v ((ev t x).bind λx=>(ev t i).bind λi=>vp P tt x i)
 | .lookup tt x k ok=>v ((ev t x).bind λx=>(ev t k).bind λk=>rN P h tt x k ok)
 | .mapUpdate tt m k x | .insert tt m k x=>u ((ev t m).bind λm=>(ev t k).bind λk=>(ev t x).bind λx=>kL P h tt m k x)
 | .mapEntry tt m k=>vh ((ev t m).bind λm=>(ev t k).bind λk=>vB P h tt m k)
 | .entryStore _ m s x=>u ((ev t m).bind λm=>(ev t s).bind λs=>(ev t x).bind λx=>qF h m s x)
 | .range tt x=>vh ((ev t x).bind λx=>vK P h tt x)
 | .next it isS=>match ev t it with
  | some it=>(zI h it isS).map λl=>l.map λx=>(some x.1,x.2)
  | none=>none
 | .entry it=>v ((ev t it).bind λit=>vd h it)
 | .extract x i=>match ev t x with
  | some (.cx vs)=>v vs[i]?
  | _=>none
 | .typeAssert x _ asserted ok=>match P.underlying asserted with
  | some (.interface _)=>none
  | some _=>match ev t x with
   | some (.iface d y)=>cond (beq d asserted) (v (some (cond ok (.cx [y,.bool true]) y))) none
   | _=>none
  | none=>none
 | .call { callee:=.builtin b,args,argTypes }=>vh ((A7 t args.toList).bind λxs=>mM P h b argTypes.toList xs)
 | _=>none
inductive DV where
 | fl (a:AV)
 | sl (nl:Bool) (n e:Nat) (cs:List DV)
 | ag (cs:List DV)
 deriving Inhabited
def eG:AV->AV->Bool
 | .bool a,.bool b=>Bool.rec (Bool.rec true false b) b a
 | .int k a,.int k' b=>A0 k k'&&QE a b
 | .str a,.str b=>ve a b
 | _,_=>false
mutual
def DV.eq:DV->DV->Bool
 | .fl a,.fl b=>eG a b
 | .sl x n e cs,.sl y m g ds=>(Bool.rec (Bool.rec true false y) y x)&&(beq n m&&(beq e g&&DV.ve cs ds))
 | .ag cs,.ag ds=>DV.ve cs ds
 | _,_=>false
def DV.ve:List DV->List DV->Bool
 | [],[]=>true
 | a::aS,b::bs=>DV.eq a b&&DV.ve aS bs
 | _,_=>false
end
def rowAt(h:H)(id:Nat):Option (List AV):=match h.aW.get id with
 | some (.cells cs _)=>some cs
 | some (.ro cs)=>some cs
 | _=>none
def Pd(h:H):Nat->AV->Option DV
 | 0,_=>none
 | k+1,a=>match a with
  | .slice none 0 e (some 0)=>some (.sl true 0 e [])
  | .slice (some (id,off)) n e _=>cond (beq n 0||ble h.next id) none
   ((rowAt h id).bind λrow=>cond (ble (off+n*e) row.length) ((((row.drop off).take (n*e)).mapM (Pd h k)).map λcs=>.sl false n e cs) none)
  | .agg aS=>(aS.mapM (Pd h k)).map .ag
  | a=>cond (mQ a) (some (.fl a)) none
mutual
def canon:DV->Nat->AV×List (Option (List AV))
 | .fl a,_=>(a,[])
 | .sl nl n e cs,k=>match nl with
  | true=>(.slice none 0 e (some 0),[])
  | false=>(.slice (some (k,0)) n e none,(match n with | 0=>none | _=>some (eU cs (k+1)).1)::(eU cs (k+1)).2)
 | .ag cs,k=>(.agg (eU cs k).1,(eU cs k).2)
def eU:List DV->Nat->List AV×List (Option (List AV))
 | [],_=>([],[])
 | d::ds,k=>((canon d k).1::(eU ds (k+(canon d k).2.length)).1,(canon d k).2++(eU ds (k+(canon d k).2.length)).2)
end
def R7:List (List DV×AV)->List DV->Option AV
 | [],_=>none
 | (ds,v)::l,es=>cond (DV.ve ds es) (some v) (R7 l es)
inductive Ex where
 | normal | ret
 | exit (id:Nat)
 | goto (l:Nat)
 deriving Inhabited
abbrev CV:=Fn->List AV->H->R (AV×H)
def St.put(st:St)(dst:Option Tmp)(v:AV):Option St:=match dst with
 | none=>some st
 | some d=>match st with
  | ⟨t,n,h,ds⟩=>cond (blt d n) (some ⟨t.put d (some v),n,h,ds⟩) none
def St.Uo(st:St)(h:H):St:=match st with
 | ⟨t,n,_,ds⟩=>⟨t,n,h,ds⟩
def uU(ops:List Oper)(t:Tr AV)(n:Nat)(o:Oper):Option Bool:=match o.guard with
 | none=>some true
 | some (j,want)=>match (ops[j]?).bind (·.dst) with
  | some d=>cond (blt d n) (match t.get d with
   | some (.bool b)=>some (b==want)
   | some (.cx []) | none=>some false
   | _=>none) none
  | none=>none
def pH(P:Program)(t:Tr AV)(c:Call):Option (Fn×List AV×List AV):=match c.callee with
 | .value f=>match ev t f with
  | some (.fn fn first cap)=>(A7 t c.args.toList).map λxs=>(fn,first++xs,cap)
  | _=>none
 | .invoke r name=>match ev t r with
  | some (.iface tt v)=>(jn P tt name).bind λf=>(A7 t c.args.toList).map λxs=>(.func f,v::xs,[])
  | _=>none
 | .builtin _=>none
def fR:Op->Bool
 | .call { callee:=.builtin _,.. }=>false
 | .call _=>true
 | _=>false
def Vd(P:Program)(cv:CV)(ro:Option Nat)(o:Oper)(st:St):R St:=
 match o.op with
 | .defer c=>match ro with
  | some _=>none
  | none=>match c.callee with
   | .value g=>match ev st.t g with
    | some (.fn (.func f) first cap)=>match A7 st.t c.args.toList with
     | some xs=>(({ st with ds:={ fn:=some (.func f),Fe:=0,args:=first++xs,cap }::st.ds }:St).put o.dst lV).map λs=>[s]
     | none=>none
    | _=>none
   | _=>none
 | op=>cond (fR op)
  (
   match op with
   | .call c=>match pH P st.t c with
    | some (fn,xs,cap)=>RX (cv fn (xs++cap) st.h) λ(v,h)=>((st.Uo h).put o.dst v).map λs=>[s]
    | none=>none
   | _=>none)
  (RX (eB P st.t st.h op) λ(v,h)=>((st.Uo h).put o.dst (match v with | some v=>v | none=>lV)).map λs=>[s])
def tQ:Op->Bool
 | .store .. | .entryStore .. | .mapUpdate .. | .insert .. | .mapEntry .. | .next .. | .defer _ | .range ..=>true
 | .call { callee:=.builtin b,.. }=>match b with | .len | .cap | .min | .max=>false | _=>true
 | .call _=>true
 | _=>false
def bit(i:Nat):Nat:=2^i
def bL(m i:Nat):Bool:=Nat.testBit m i
def mW:List Oper->List Nat->List Nat
 | [],acc=>acc
 | o::rest,acc=>mW rest (acc++[o.after.toList.foldl (λm e=>cond (Region.binds .any e) (lor m (lor (bit e.on) (acc.getD e.on 0))) m) 0])
def tmpsOf(o:Oper):List Tmp:=o.op.operands.toList.filterMap λ| .tmp t=>some t | _=>none
def iR(ops:List Oper)(o:Oper):List Tmp:=tmpsOf o++(match o.guard with
 | some (j,_)=>match (ops[j]?).bind (·.dst) with
  | some d=>[d]
  | none=>[]
 | none=>[])
def Sh(t:Tr AV):List Tmp->Tr AV
 | []=>.nil
 | k::l=>(Sh t l).put k (t.get k)
def cu{α:Type}:Nat->List α->List (Nat×α)
 | _,[]=>[]
 | i,x::xs=>(i,x)::cu (i+1) xs
def SA(base:Nat)(m:Nat):List (Nat×AO)->H->H
 | [],h=>h
 | (i,o)::xs,h=>SA base m xs (cond (bL m i) (h.lay (base+i) o) h)
structure Dr where
 t:Tr AV
 c:H
 xs:List (Nat×AO)
 all:List (Nat×AO)
 m:Nat
 cs:List (Nat×Nat×H)
 reads:List (Nat×Tr AV×Op×AV)
 deriving Inhabited
def Dr.Rz(d:Dr)(n:Nat)(dst:Option Tmp)(v:AV):Option Dr:=match dst with
 | none=>some d
 | some k=>cond (blt k n) (some { d with t:=d.t.put k (some v) }) none
def T3(P:Program)(cv:CV)(ro:Option Nat)(base:Nat)(all:List Oper)(ms:List Nat)(n:Nat)(i:Nat)(o:Oper)(d:Dr):Option Dr:=
 let r:=Sh d.t (iR all o)
 match uU all r n o with
 | none=>none
 | some false=>d.Rz n o.dst lV
 | some true=>
  cond (tQ o.op)
   (
    match Vd P cv ro o { t:=r,n,h:=SA base (ms.getD i 0) d.xs d.c,ds:=[] } with
    | some [st]=>(d.Rz n o.dst (match o.dst with | some k=>(st.t.get k).getD lV | none=>lV)).map λd=>
     { d with c:=st.h,xs:=d.xs.filter (λx=>!(bL (ms.getD i 0) x.1)),m:=lor d.m (ms.getD i 0),cs:=d.cs++[(i,lor d.m (ms.getD i 0),st.h)] }
    | _=>none)
   (cond (QP o.op)
    (
     match pC P r o.op (base+i) with
     | some (v,ob)=>(d.Rz n o.dst v).map λd=>{ d with xs:=d.xs++[(i,ob)],all:=d.all++[(i,ob)] }
     | none=>none)
    (
     match eB P r (SA base (ms.getD i 0) d.xs d.c) o.op with
     | some [(some v,_)]=>(d.Rz n o.dst v).map λd=>{ d with reads:=d.reads++[(i,r,o.op,v)] }
     | _=>none))
def H.pU(h:H)(id:Nat):Option (LoopState×Option Code×Tr AV×Nat×Array Tmp×Code×Code×Nat):=match h.aW.get id with
 | some (.loop st p t n ps a b d)=>some (st,p,t,n,ps,a,b,d)
 | _=>none
def Di(ro:Option Nat)(ps:Array Tmp)(assign body:Code)(st:St):Option (Nat×St):=match ro with
 | some l=>(st.h.pU l).map λr=>
  let (id,h):=st.h.newObj (.loop .ready none st.t st.n ps assign body r.2.2.2.2.2.2.2)
  (id,{ st with h:=h })
 | none=>
  let (r,h):=st.h.newObj (.mA false)
  let (id,h):=h.newObj (.loop .ready none st.t st.n ps assign body r)
  some (id,{ st with h:=h,ds:={ fn:=none,Fe:=r,args:=[],cap:=[] }::st.ds })
def yl:Nat->List AV->Tr AV->Tr AV
 | _,[],t=>t
 | i,x::xs,t=>yl (i+1) xs (t.put i (some x))
def uf(P:Program)(t:Tr AV)(h:H)(rs:List ResultVar):Option AV:=
 (rs.mapM λ
  | ResultVar.tmp i=>ev t (.tmp i)
  | ResultVar.cell a tt=>match ev t (.tmp a) with
   | some (.ptr (some (id,off)))=>h.load P tt id off
   | _=>none).map λvs=>match vs with
  | [v]=>v
  | vs=>.cx vs
def kE:Ex->Bool
 | .normal | .ret=>true
 | _=>false
inductive XK where
 | indexByte | cmp | clone | name
 | Up (ts:List TypeId)
 | const (v:AV)
 | deep (tbl:List (List DV×AV))
 deriving Inhabited
def ga(c:Nat):List Nat->Nat->Int
 | [],_ => -1
 | b::l,i=>cond (beq b c) (b0 i) (ga c l (i+1))
def dN(b:Nat):Bool:=(ble 97 b&&ble b 122)||(ble 65 b&&ble b 90)
def kU(b:Nat):Bool:=dN b||((ble 48 b&&ble b 57)||beq b 95)
def cN:List Nat->Bool
 | []=>false
 | b::l=>dN b&&(l.all kU&&ble l.length 23)
def xA(k:XK)(args:List AV)(h:H):Option (AV×H):=match k,args with
 | .indexByte,[.str s,.int .u8 (.ofNat c)]=>cond (blt c 256) (some (.int .i64 (ga c s 0),h)) none
 | .cmp,[.str a,.str b]=>some (.int .i64 (cond (fF a b) (-1) (cond (ve a b) 0 1)),h)
 | .clone,[.iface t (.map (some id))]=>(h.mapOf id).map λ(es,c)=>(.iface t (.map (some h.next)),{ h.lay h.next (.map es c) with next:=h.next+1 })
 | .name,[.str s]=>cond (ble s.length 1000000) (some (.bool (cN s),h)) none
 | .const v,[]=>some (v,h)
 | .deep tbl,args=>(args.mapM (Pd h 8)).bind λds=>(R7 tbl ds).map λv=>(v,h)
 | .Up ts,[.iface t (.slice _ n _ _),.fn _ _ _]=>cond (ble n 1&&ts.any (beq t)) (some (.cx [],h)) none
 | _,_=>none
def jA:List (Nat×AV)->Nat->Tr AV->Option (Tr AV)
 | [],_,t=>some t
 | (k,v)::l,n,t=>cond (blt k n) (jA l n (t.put k (some v))) none
def get_nil(k:Nat):(Tr.nil:Tr α).get k=none:=rfl
def cS{a b:Nat}(h:beq a b=true):a=b:=Nat.eq_of_beq_eq_true h
def M8{a b:Nat}(h:a=b):Nat.beq a b=true:=by subst h;simp
def jq{a b:Nat}(h:ble a b=true):a<=b:=md h
def fc{a b:Nat}(h:a<=b):Nat.ble a b=true:=by simpa using h
def fZ{a b:Nat}(h:blt a b=true):a<b:=md h
def aq{α:Sort _}(a b:α):cond true a b=a:=rfl
def aA{α:Sort _}(a b:α):cond false a b=b:=rfl
def Lo(b:Bool)(x y:α):Bool.rec (motive:=λ_=>α) y x b=cond b x y:=by cases b<;>rfl
def jQ(v:Option α)(l r:Tr α)(k:Nat):
 (Tr.node v l r).get k=if k=0 then v else if k%2=1 then l.get ((k-1)/2) else r.get ((k-1)/2):=by
 have e:(Tr.node v l r).get k=cond (beq k 0) v (cond (beq (k%2) 1) (l.get ((k-1)/2)) (r.get ((k-1)/2))):=by
  rw[<-Lo,<-Lo];rfl
 rw[e];by_cases h0:k=0
 ·simp[h0]
 ·have e0:beq k 0=false:=by cases k<;>simp_all [beq]
  rw[e0,aA,v6 h0];by_cases h1:k%2=1
  ·have e1:beq (k%2) 1=true:=M8 h1;rw[e1,aq,ut h1]
  ·have e1:beq (k%2) 1=false:=by
    cases hb:beq (k%2) 1
    ·rfl
    ·exact un (cS hb) h1
   rw[e1,aA,v6 h1]
def L5(x:Option α)(f k:Nat):
 Tr.lone x (f+1) k=if k=0 then .node x .nil .nil else if k%2=1 then .node none (Tr.lone x f ((k-1)/2)) .nil else .node none .nil (Tr.lone x f ((k-1)/2)):=by
 have e:Tr.lone x (f+1) k=cond (beq k 0) (.node x .nil .nil) (cond (beq (k%2) 1) (.node none (Tr.lone x f ((k-1)/2)) .nil) (.node none .nil (Tr.lone x f ((k-1)/2)))):=by
  rw[<-Lo,<-Lo];rfl
 rw[e];by_cases h0:k=0
 ·simp[h0]
 ·have e0:beq k 0=false:=by cases k<;>simp_all [beq]
  rw[e0,aA,v6 h0];by_cases h1:k%2=1
  ·have e1:beq (k%2) 1=true:=M8 h1;rw[e1,aq,ut h1]
  ·have e1:beq (k%2) 1=false:=by
    cases hb:beq (k%2) 1
    ·rfl
    ·exact un (cS hb) h1
   rw[e1,aA,v6 h1]
def Pb(v:Option α)(l r:Tr α)(k:Nat)(x:Option α):
 (Tr.node v l r).put k x=if k=0 then .node x l r else if k%2=1 then .node v (l.put ((k-1)/2) x) r else .node v l (r.put ((k-1)/2) x):=by
 have e:(Tr.node v l r).put k x=cond (beq k 0) (.node x l r) (cond (beq (k%2) 1) (.node v (l.put ((k-1)/2) x) r) (.node v l (r.put ((k-1)/2) x))):=by
  rw[<-Lo,<-Lo];rfl
 rw[e];by_cases h0:k=0
 ·simp[h0]
 ·have e0:beq k 0=false:=by cases k<;>simp_all [beq]
  rw[e0,aA,v6 h0];by_cases h1:k%2=1
  ·have e1:beq (k%2) 1=true:=M8 h1;rw[e1,aq,ut h1]
  ·have e1:beq (k%2) 1=false:=by
    cases hb:beq (k%2) 1
    ·rfl
    ·exact un (cS hb) h1
   rw[e1,aA,v6 h1]
def zm{α:Type}(x:Option α):∀(f k j:Nat),k<f->(Tr.lone x f k).get j=if j=k then x else none
 | 0,k,j,h=>by omega
 | f+1,k,j,h=>by
  rw[L5];by_cases h0:k=0
  ·subst h0;rw[ut rfl,jQ];simp only[get_nil];by_cases hj:j=0<;>simp[hj]
  ·rw[v6 h0];by_cases h1:k%2=1
   ·rw[ut h1,jQ,zm x f _ _ i4];simp only[get_nil];by_cases hj:j=0
    ·rw[ut hj,v6 i4]
    ·rw[v6 hj];by_cases hj1:j%2=1
     ·rw[ut hj1];by_cases e:j=k
      ·subst e;simp
      ·rw[v6 i4,v6 e]
     ·rw[v6 hj1,v6 i4]
   ·rw[v6 h1,jQ,zm x f _ _ i4];simp only[get_nil];by_cases hj:j=0
    ·rw[ut hj,v6 i4]
    ·rw[v6 hj];by_cases hj1:j%2=1
     ·rw[ut hj1,v6 i4]
     ·rw[v6 hj1];by_cases e:j=k
      ·subst e;simp
      ·rw[v6 i4,v6 e]
def dz(t:Tr α)(k j:Nat)(x:Option α):(t.put k x).get j=if j=k then x else t.get j:=by
 induction t generalizing k j with
 | nil=>
  have e:(Tr.nil:Tr α).put k x=Tr.lone x (k+1) k:=rfl;rw[e,zm x _ _ _ i4,get_nil]
 | node v l r il ir=>
  rw[Pb];by_cases h0:k=0
  ·subst h0;rw[ut rfl,jQ,jQ];by_cases hj:j=0<;>simp[hj]
  ·rw[v6 h0];by_cases h1:k%2=1
   ·rw[ut h1,jQ,jQ,il];by_cases hj:j=0
    ·simp only[hj,if_true];rw[v6 i4]
    ·simp only[hj,if_false];by_cases hj1:j%2=1
     ·simp only[hj1,if_true];by_cases e:j=k
      ·simp[e]
      ·rw[v6 i4,v6 e]
     ·simp only[hj1,if_false];rw[v6 i4]
   ·rw[v6 h1,jQ,jQ,ir];by_cases hj:j=0
    ·simp only[hj,if_true];rw[v6 i4]
    ·simp only[hj,if_false];by_cases hj1:j%2=1
     ·simp only[hj1,if_true];rw[v6 i4]
     ·simp only[hj1,if_false];by_cases e:j=k
      ·simp[e]
      ·rw[v6 i4,v6 e]
def cW(t:Tr α)(k:Nat)(x:Option α):(t.put k x).get k=x:=by rw[dz,ut rfl]
def bn(t:Tr α){k j:Nat}(x:Option α)(h:j≠k):(t.put k x).get j=t.get j:=by rw[dz,v6 h]
def aH{c:Bool}{x:Option α}{y:α}(h:cond c x none=some y):c=true/\x=some y:=by
 cases c
 ·simp at h
 ·exact⟨rfl,h⟩
def iw{a b:Nat}(h:beq a b=false):a≠b:=λe=>by subst e;simp at h
def xG{a b:Nat}(h:ble a b=false):b<a:=by
 apply Nat.lt_of_not_le;intro e;rw[fc e] at h;simp at h
def J7{a b:Nat}(h:blt a b=false):b<=a:=by
 have:=xG h;omega
def gh(a b:Int):sj a b=decide (a<=b):=by
 unfold sj
 cases h:b-a with
 | ofNat n=>
  have:a<=b:=by have:=Int.natCast_nonneg n;simp only[Int.ofNat_eq_natCast] at h;omega
  simp[this]
 | negSucc n=>
  have:¬a<=b:=by have:=Int.negSucc_lt_zero n;omega
  simp[this]
def tx(a b:Int):QE a b=(a==b):=by
 unfold QE;rw[gh,gh];by_cases h:a=b
 ·subst h;simp
 ·have:(a==b)=false:=by simpa using h
  rw[this];by_cases h1:a<=b
  ·have:¬b<=a:=by omega
   simp[h1,this]
  ·simp[h1]
def xN(a b:IntKind):A0 a b=true↔a=b:=by cases a<;>cases b<;>simp[A0]
def iq(k:IntKind)(n:Int):dO k n=k.wrap n:=by
 unfold dO;cases hc:sj (L4 k) n&&sj n (LU k)
 ·rfl
 ·rw[aq];simp only[aa,gh,wp] at hc;obtain⟨h1,h2⟩:=hc;unfold IntKind.wrap;cases k<;>simp only[L4,LU,IntKind.bits,IntKind.signed] at h1 h2 ⊢<;>simp<;>omega
def xL:∀a b:List Nat,ve a b=decide (a=b)
 | [],[]=>by simp[ve]
 | [],b::y=>by simp[ve]
 | a::x,[]=>by simp[ve]
 | a::x,b::y=>by
  simp only[ve,xL x y,mt];cases h:beq a b
  ·simp[iw h]
  ·simp[cS h]
structure sZ where
 b:Nat
 d:Nat
 r:Nat
abbrev Sg:=Nat->Option sZ
inductive V (σ:Sg):AV->Value->Prop
 | bool (b):V σ (.bool b) (.bool b)
 | int (k n):V σ (.int k n) (.int k n)
 | str {l:List Nat} {s:ByteArray} (h:s.data.toList.map (·.toNat)=l):V σ (.str l) (.string s)
 | Tl:V σ (.ptr none) (.pointer none)
 | ptr {id off:Nat} {p:sZ} (h:σ id=some p):V σ (.ptr (some (id,off))) (.pointer (some ⟨p.b,p.d+off,none⟩))
 | ig {l e:Nat} (hl:l=0):V σ (.slice none l e (some 0)) (.slice none 0 0)
 | slice {id off len es:Nat} {cap:Option Nat} {a:Addr} {p:sZ} {c:Nat} (h:σ id=some p) (hl:len<=c) (hr:off+c*es<=p.r) (hc:∀x,cap=some x->x=c)
  (ha:a=⟨p.b,p.d+off,none⟩\/c=0):V σ (.slice (some (id,off)) len es cap) (.slice (some a) len c)
 | Ta:V σ (.map none) (.map none)
 | map {id:Nat} {p:sZ} (h:σ id=some p):V σ (.map (some id)) (.map (some p.b))
 | fn {f:Fn} {fs cs:List AV} {fs' cs':Array Value} (hf:∀l,f≠.yield l) (h1:fs.length=fs'.size) (h2:∀(i:Nat) (a:AV) (v:Value),fs[i]?=some a->fs'[i]?=some v->V σ a v)
  (h3:cs.length=cs'.size) (h4:∀(i:Nat) (a:AV) (v:Value),cs[i]?=some a->cs'[i]?=some v->V σ a v):V σ (.fn f fs cs) (.func f fs' cs')
 | yield {id:Nat} {p:sZ} (h:σ id=some p):V σ (.fn (.yield id) [] []) (.func (.yield p.b) #[] #[])
 | ej:V σ .ej .nilFunc
 | iface {t:TypeId} {a:AV} {v:Value} (h:V σ a v):V σ (.iface t a) (.iface t v)
 | xk:V σ .xk .nilIface
 | any {v:Value} (h:∀vs,v≠.agg vs):V σ .any v
 | agg {cs:List AV} {vs:Array Value} (h1:cs.length=vs.size) (h2:∀(i:Nat) (a:AV) (v:Value),cs[i]?=some a->vs[i]?=some v->V σ a v):V σ (.agg cs) (.agg vs)
 | cx {cs:List AV} {vs:Array Value} (h1:cs.length=vs.size) (h2:∀(i:Nat) (a:AV) (v:Value),cs[i]?=some a->vs[i]?=some v->V σ a v):V σ (.cx cs) (.tuple vs)
def VL(σ:Sg)(cs:List AV)(vs:List Value):Prop:=cs.length=vs.length/\∀(i:Nat) (a:AV) (v:Value),cs[i]?=some a->vs[i]?=some v->V σ a v
variable{σ:Sg}{v:Value}
def V.mono{σ':Sg}(hle:∀id p,σ id=some p->σ' id=some p){a:AV}(h:V σ a v):V σ' a v:=by
 induction h with
 | bool b=>exact .bool b
 | int k n=>exact .int k n
 | str h=>exact .str h
 | Tl=>exact .Tl
 | ptr h=>exact .ptr (hle _ _ h)
 | ig h=>exact .ig h
 | slice h hl hr hc ha=>exact .slice (hle _ _ h) hl hr hc ha
 | Ta=>exact .Ta
 | map h=>exact .map (hle _ _ h)
 | fn hf h1 h2 h3 h4 ih2 ih4=>exact .fn hf h1 (λi a v x y=>ih2 i a v x y) h3 (λi a v x y=>ih4 i a v x y)
 | yield h=>exact .yield (hle _ _ h)
 | ej=>exact .ej
 | iface h ih=>exact .iface ih
 | xk=>exact .xk
 | any h=>exact .any h
 | agg h1 h2 ih=>exact .agg h1 (λi a v x y=>ih i a v x y)
 | cx h1 h2 ih=>exact .cx h1 (λi a v x y=>ih i a v x y)
def VL.mono{σ σ':Sg}(hle:∀id p,σ id=some p->σ' id=some p){a:List AV}{v:List Value}(h:VL σ a v):VL σ' a v:=
 ⟨h.1,λi a v x y=>(h.2 i a v x y).mono hle⟩
def VL.nil:VL σ [] []:=⟨rfl,λi a v h _=>by simp at h⟩
variable{aS:List AV}{vs:List Value}
def VL.cons{a:AV}(h:V σ a v)(hs:VL σ aS vs):VL σ (a::aS) (v::vs):=by
 refine⟨by simp[hs.1],?_⟩;intro i x y hx hy
 cases i with
 | zero=>simp at hx hy;subst hx;subst hy;exact h
 | succ i=>simp at hx hy;exact hs.2 i x y hx hy
def VL.of_cons{a:AV}(h:VL σ (a::aS) (v::vs)):V σ a v/\VL σ aS vs:=
 ⟨h.2 0 a v ge ge,⟨by have:=h.1;simpa using this,λi x y hx hy=>h.2 (i+1) x y (by simpa using hx) (by simpa using hy)⟩⟩
def VL.dG{a:AV}{l:List Value}(h:VL σ (a::aS) l):∃v vs,l=v::vs/\V σ a v/\VL σ aS vs:=by
 cases l with
 | nil=>have:=h.1;simp at this
 | cons v vs=>exact⟨v,vs,rfl,h.of_cons.1,h.of_cons.2⟩
def VL.pS{l:List Value}(h:VL σ [] l):l=[]:=by
 have:=h.1;cases l with
 | nil=>rfl
 | cons v vs=>simp at this
variable{i:Nat}
def VL.get(h:VL σ aS vs){a:AV}(ha:aS[i]?=some a):∃v,vs[i]?=some v/\V σ a v:=by
 have hi:i<aS.length:=by
  rcases aT i aS.length with h | h
  ·exact h
  ·simp[ad h] at ha
 have hv:i<vs.length:=h.1▸hi;exact⟨vs[i],jp hv,h.2 i a _ ha (jp hv)⟩
def VL.append{bs:List AV}{ws:List Value}(h:VL σ aS vs)(k:VL σ bs ws):VL σ (aS++bs) (vs++ws):=by
 refine⟨by simp[h.1,k.1],?_⟩;intro i x y hx hy;rw[ap] at hx hy;have e:=h.1;by_cases hi:i<aS.length
 ·rw[ut hi] at hx;rw[ut i4] at hy;exact h.2 i x y hx hy
 ·rw[v6 hi] at hx;rw[v6 i4,<-e] at hy;exact k.2 _ x y hx hy
def VL.drop{σ:Sg}{aS:List AV}{vs:List Value}(h:VL σ aS vs)(n:Nat):VL σ (aS.drop n) (vs.drop n):=
 ⟨by simp[h.1],λi x y hx hy=>h.2 (n+i) x y (by simpa [bb] using hx) (by simpa [bb] using hy)⟩
def VL.take{σ:Sg}{aS:List AV}{vs:List Value}(h:VL σ aS vs)(n:Nat):VL σ (aS.take n) (vs.take n):=by
 refine⟨by simp[h.1],?_⟩;intro i x y hx hy;rw[am] at hx hy;by_cases hi:i<n
 ·rw[ut hi] at hx hy;exact h.2 i x y hx hy
 ·rw[v6 hi] at hx;simp at hx
variable{cs:List AV}
def V.oB(h:V σ (.agg cs) v):∃vs,v=.agg vs/\VL σ cs vs.toList:=by
 cases h with
 | agg h1 h2=>exact⟨_,rfl,by simpa using h1,λi a v x y=>h2 i a v x (by simpa using y)⟩
def V.IP(h:V σ (.cx cs) v):∃vs,v=.tuple vs/\VL σ cs vs.toList:=by
 cases h with
 | cx h1 h2=>exact⟨_,rfl,by simpa using h1,λi a v x y=>h2 i a v x (by simpa using y)⟩
def V.Tb(h:VL σ cs vs):V σ (.agg cs) (.agg vs.toArray):=.agg (by simpa using h.1) (λi a v x y=>h.2 i a v x (by simpa using y))
def V.xU{vs:Array Value}(h:VL σ cs vs.toList):V σ (.agg cs) (.agg vs):=.agg (by simpa using h.1) (λi a v x y=>h.2 i a v x (by simpa using y))
def V.OH(h:VL σ cs vs):V σ (.cx cs) (.tuple vs.toArray):=.cx (by simpa using h.1) (λi a v x y=>h.2 i a v x (by simpa using y))
def V.gi{vs:Array Value}(h:VL σ cs vs.toList):V σ (.cx cs) (.tuple vs):=.cx (by simpa using h.1) (λi a v x y=>h.2 i a v x (by simpa using y))
def V.lV{σ:Sg}:V σ lV undef:=.cx ge (λi a v h _=>by simp at h)
def V.cells{σ:Sg}{a:AV}{v:Value}(h:V σ a v):VL σ a.cells v.cells.toList:=by
 cases h with
 | agg h1 h2=>exact⟨by simpa [AV.cells,Value.cells] using h1,λi a v x y=>h2 i a v x (by simpa [Value.cells] using y)⟩
 | any h=>
  cases v with
  | agg vs=>exact un rfl (h vs)
  | _=>exact .cons (.any h) .nil
 | _=>exact .cons (by constructor<;>assumption) .nil
def V.ki{σ:Sg}{a:AV}{v:Value}(h:V σ a v)(ho:ki a=true):v.oneCell'=true:=by
 cases h<;>simp_all [Ev.ki,Value.oneCell']
def VL.ki{σ:Sg}{aS:List AV}{vs:List Value}(h:VL σ aS vs)(ho:aS.all Ev.ki=true):∀v∈vs,v.oneCell'=true:=by
 intro v hv;obtain⟨i,hi⟩:=List.mem_iff_getElem?.1 hv
 have hlt:i<vs.length:=by
  rcases aT i vs.length with h | h
  ·exact h
  ·simp[ad h] at hi
 have ha:aS[i]?=some (aS[i]'(by have:=h.1;omega)):=jp _;exact(h.2 i _ v ha hi).ki (all_eq_true.1 ho _ (List.getElem_mem _))
def uZ{n:Nat}{σ:Sg}(ih:∀v a,lZ n v=some a->V σ a v):∀(l:List Value) (aS:List AV),l.mapM (lZ n)=some aS->VL σ aS l
 | [],aS,h=>by simp at h;subst h;exact .nil
 | v::l,aS,h=>by
  rw[bN] at h
  cases h1:lZ n v with
  | none=>simp[h1] at h
  | some a=>
   cases h2:l.mapM (lZ n) with
   | none=>simp[h1,h2] at h
   | some bs=>simp[h1,h2] at h;subst h;exact .cons (ih v a h1) (uZ ih l bs h2)
def Nj:∀(n:Nat) (v:Value) (a:AV),lZ n v=some a->V σ a v:=by
 intro n
 induction n with
 | zero=>intro v a h;simp[lZ] at h
 | succ n ih=>
  intro v a h;unfold lZ at h;split at h
  all_goals first
   | (simp only[qr] at h;subst h;first | exact .bool _ | exact .int _ _ | exact .str rfl | exact .Tl | exact .ig rfl | exact .Ta | exact .ej | exact .xk)
   | skip
  ·rename_i cs
   cases h1:cs.toList.mapM (lZ n) with
   | none=>simp[h1] at h
   | some aS=>simp[h1] at h;subst h;exact .xU (uZ ih _ _ h1)
  ·rename_i cs
   cases h1:cs.toList.mapM (lZ n) with
   | none=>simp[h1] at h
   | some aS=>simp[h1] at h;subst h;exact .gi (uZ ih _ _ h1)
  ·rename_i t v
   cases h1:lZ n v with
   | none=>simp[h1] at h
   | some aS=>simp[h1] at h;subst h;exact .iface (ih _ _ h1)
  ·simp at h
def ER(σ:Sg)(e:AV×AV×Nat)(m:MapEntry):Prop:=V σ e.1 m.key/\V σ e.2.1 m.val/\e.2.2=m.born
def TR(σ:Sg)(t:Tr AV)(n:Nat)(tmps:Array Value):Prop:=tmps.size=n/\∀i,V σ ((t.get i).getD lV) (tmps.getD i undef)
def kD(s:ByteArray):List Nat:=s.data.toList.map (·.toNat)
def OR(σ:Sg)(o:AO)(p:sZ)(b:Option Obj):Prop:=match o with
 | .cells cs _=>∃c e,b=some (.cells c e (0,0))/\p.d+p.r<=c.size/\cs.length<=p.r/\∀(i:Nat) (a:AV),cs[i]?=some a->∃v,c[p.d+i]?=some v/\V σ a v
 | .ro cs=>∃c e f,b=some (.cells c e f)/\p.d+p.r<=c.size/\cs.length<=p.r/\∀(i:Nat) (a:AV),cs[i]?=some a->∃v,c[p.d+i]?=some v/\V σ a v
 | .map es ck=>∃es':Array MapEntry,b=some (.map es' ck)/\es.length=es'.size/\∀(i:Nat) (e:AV×AV×Nat) (m:MapEntry),es[i]?=some e->es'[i]?=some m->ER σ e m
 | .K7 s pos=>∃s',b=some (.stringIter s' pos)/\kD s'=s/\p.d=0
 | .jd m since seen st=>∃m',b=some (.mapIter m' since seen.toArray st)/\p.d=0/\(match m with
  | none=>m'=none
  | some id=>∃q,σ id=some q/\m'=some q.b)
 | .loop st pend t n ps a bd d=>∃f tmps q,b=some (.loop { state:=st,pending:=pend,fn:=f,tmps,params:=ps,assign:=a,body:=bd,defers:=q.b })/\σ d=some q/\TR σ t n tmps
 | .mA tk=>b=some (.deferred (if tk then none else some []))
def TR.mono{σ σ':Sg}(hle:∀id p,σ id=some p->σ' id=some p){t:Tr AV}{n:Nat}{tmps:Array Value}(h:TR σ t n tmps):TR σ' t n tmps:=
 ⟨h.1,λi=>(h.2 i).mono hle⟩
def OR.mono{σ σ':Sg}(hle:∀id p,σ id=some p->σ' id=some p){o:AO}{p:sZ}{b:Option Obj}(h:OR σ o p b):OR σ' o p b:=by
 cases o with
 | cells cs f=>obtain⟨c,e,h1,h2,h3,h4⟩:=h;exact⟨c,e,h1,h2,h3,λi a ha=>let ⟨v,hv,hV⟩:=h4 i a ha;⟨v,hv,hV.mono hle⟩⟩
 | ro cs=>obtain⟨c,e,f,h1,h2,h3,h4⟩:=h;exact⟨c,e,f,h1,h2,h3,λi a ha=>let ⟨v,hv,hV⟩:=h4 i a ha;⟨v,hv,hV.mono hle⟩⟩
 | map es ck=>obtain⟨es',h1,h2,h3⟩:=h;exact⟨es',h1,h2,λi e m he hm=>let ⟨a,b,c⟩:=h3 i e m he hm;⟨a.mono hle,b.mono hle,c⟩⟩
 | K7 s pos=>exact h
 | jd m since seen st=>
  obtain⟨m',h1,h0,h2⟩:=h;refine⟨m',h1,h0,?_⟩
  cases m with
  | none=>exact h2
  | some id=>obtain⟨q,hq,hm⟩:=h2;exact⟨q,hle _ _ hq,hm⟩
 | loop st pend t n ps a bd d=>obtain⟨f,tmps,q,h1,h2,h3⟩:=h;exact⟨f,tmps,q,h1,hle _ _ h2,h3.mono hle⟩
 | mA tk=>exact h
variable{o:AO}{p:sZ}
def OR.some{b:Option Obj}(h:OR σ o p b):b≠none:=by
 intro e;subst e;cases o<;>simp[OR] at h
def Ng(o o':AO):Prop:=(∃cs cs' f,o=.cells cs f/\o'=.cells cs' f)\/(∃cs cs',o=.ro cs/\o'=.ro cs')
def Ng.left{f:Nat}(h:Ng o (.cells cs f)):∃cs',o=.cells cs' f:=by
 rcases h with⟨a,b,c,e1,e2⟩ | ⟨a,b,e1,e2⟩
 ·cases e2;exact⟨_,e1⟩
 ·cases e2
structure HR (σ:Sg) (h:H) (w:World):Prop where
 obj:∀id o,h.aW.get id=some o->∃p,σ id=some p/\OR σ o p w.heap[p.b]?
 fresh:∀id,h.next<=id->σ id=none
 sep:∀i j o o' p q,i≠j->h.aW.get i=some o->h.aW.get j=some o'->σ i=some p->σ j=some q->p.b=q.b->Ng o o'
 bX:∀i cs f,h.aW.get i=some (.cells cs f)->f<h.next/\∃x y,h.dC.get f=some (x,y)/\(i=x\/i=y)
 DE:h.low<=h.next
variable{w:World}
def Cf{b:Nat}(h:w.heap[b]?≠none):b<w.heap.size:=by
 rcases aT b w.heap.size with h' | h'
 ·exact h'
 ·simp[h'] at h
variable{h:H}
def HR.lt(hr:HR σ h w){id:Nat}(ho:h.aW.get id=some o)(hp:σ id=some p):p.b<w.heap.size:=by
 obtain⟨q,hq,hor⟩:=hr.obj id o ho;rw[hp] at hq;cases hq;exact Cf hor.some
def HR.Wh(hr:HR σ h w){id:Nat}(ho:h.aW.get id=some o):id<h.next:=by
 obtain⟨q,hq,_⟩:=hr.obj id o ho
 rcases aT id h.next with h' | h'
 ·exact h'
 ·rw[hr.fresh id h'] at hq;cases hq
def P7(o:AO):Prop:=∀cs,o≠.ro cs
structure Ext (σ σ':Sg) (h h':H) (w w':World):Prop where
 le:∀id p,σ id=some p->σ' id=some p
 next:h.next<=h'.next
 size:w.heap.size<=w'.heap.size
 os:w'.os=w.os
 tape:w'.tape=w.tape
 output:w'.output=w.output
 TP:∀id o p,h'.aW.get id=some o->σ' id=some p->w.heap.size<=p.b\/∃i o' q,h.aW.get i=some o'/\σ i=some q/\q.b=p.b/\(P7 o->P7 o')
 frame:∀b,b<w.heap.size->(∀id o p,h.aW.get id=some o->P7 o->σ id=some p->p.b≠b)->w'.heap[b]?=w.heap[b]?
 low:h'.low<=h.low
 same:∀id,id<h'.low->id<h.next->h'.aW.get id=h.aW.get id
 mE:∀id,id<h.next->σ id=none->σ' id=none
 dC:∀id cs f,h'.aW.get id=some (.cells cs f)->h.next<=f\/∃i cs',h.aW.get i=some (.cells cs' f)
def Ext.refl(σ:Sg)(h:H)(w:World):Ext σ σ h h w w:=
 ⟨λ_ _ h=>h,ac _,ac _,rfl,rfl,rfl,λid o p ho hp=>.inr ⟨id,o,p,ho,hp,rfl,λh=>h⟩,λ_ _ _=>rfl,ac _,λ_ _ _=>rfl,λ_ _ h=>h,λid cs _ ho=>.inr ⟨id,cs,ho⟩⟩
def Ext.trans{σ σ' σ'':Sg}{h h' h'':H}{w w' w'':World}(a:Ext σ σ' h h' w w')(b:Ext σ' σ'' h' h'' w' w''):Ext σ σ'' h h'' w w'' where
 le:=λid p hp=>b.le _ _ (a.le _ _ hp)
 next:=ay a.next b.next
 size:=ay a.size b.size
 os:=b.os.trans a.os
 tape:=b.tape.trans a.tape
 output:=b.output.trans a.output
 TP:=by
  intro id o p ho hp
  rcases b.TP id o p ho hp with h1 | ⟨i,o',q,h1,h2,h3,g3⟩
  ·exact .inl (ay a.size h1)
  ·rcases a.TP i o' q h1 h2 with h4 | ⟨j,o'',r,h4,h5,h6,g6⟩
   ·exact .inl i4
   ·exact .inr ⟨j,o'',r,h4,h5,by omega,λh=>g6 (g3 h)⟩
 frame:=by
  intro bk hb hn;rw[b.frame bk (al hb a.size),a.frame bk hb hn];intro id o p ho hw hp e
  rcases a.TP id o p ho hp with h1 | ⟨i,o',q,h1,h2,h3,g3⟩
  ·omega
  ·exact hn i o' q h1 (g3 hw) h2 i4
 low:=ay b.low a.low
 same:=by
  intro id h1 h2;rw[b.same id h1 (al h2 a.next),a.same id (al h1 b.low) h2]
 mE:=λid h1 h2=>b.mE id (al h1 a.next) (a.mE id h1 h2)
 dC:=by
  intro id cs f ho
  rcases b.dC id cs f ho with h1 | ⟨i,cs',h1⟩
  ·exact .inl (ay a.next h1)
  ·exact a.dC i cs' f h1
variable{w':World}
def HR.congr(hr:HR σ h w)(e:w'.heap=w.heap):HR σ h w':=
 ⟨λid o ho=>by rw[e];exact hr.obj id o ho,hr.fresh,hr.sep,hr.bX,hr.DE⟩
def Ext.of_eq(e:w'.heap=w.heap)(e1:w'.os=w.os)(e2:w'.tape=w.tape)(e3:w'.output=w.output):Ext σ σ h h w w':=
 ⟨λ_ _ h=>h,ac _,by rw[e];exact ac _,e1,e2,e3,λid o p ho hp=>.inr ⟨id,o,p,ho,hp,rfl,λh=>h⟩,λ_ _ _=>by rw[e],ac _,λ_ _ _=>rfl,λ_ _ h=>h,λid cs _ ho=>.inr ⟨id,cs,ho⟩⟩
def gO(b o n:Nat):(⟨b,o,none⟩:Addr).add n=⟨b,o+n,none⟩:=by
 unfold Addr.add;split
 ·rename_i h;simp[h]
 ·rfl
variable{c:Array Value}{e:TypeId}
def cell_of{b o:Nat}{f:Nat×Nat}(h:w.heap[b]?=some (.cells c e f)):w.cell? ⟨b,o,none⟩=c[o]?:=by
 simp[World.cell?,h]
def vn{b o:Nat}(h:w.heap[b]?=some (.cells c e (0,0))):w.frozen? ⟨b,o,none⟩=false:=by
 simp[World.frozen?,h]
def HR.cells{σ:Sg}{h:H}{w:World}(hr:HR σ h w){id:Nat}{cs:List AV}{f:Nat}(ho:h.aW.get id=some (.cells cs f)):
 ∃p c e,σ id=some p/\w.heap[p.b]?=some (.cells c e (0,0))/\p.d+p.r<=c.size/\cs.length<=p.r/\∀(i:Nat) (a:AV),cs[i]?=some a->∃v,c[p.d+i]?=some v/\V σ a v:=by
 obtain⟨p,hp,c,e,h1,h2,h3,h4⟩:=hr.obj id _ ho;exact⟨p,c,e,hp,h1,h2,h3,h4⟩
def RR(o:AO)(cs:List AV):Prop:=(∃f,o=.cells cs f)\/o=.ro cs
def HR.row(hr:HR σ h w){id:Nat}(ho:h.aW.get id=some o)(hi:RR o cs):
 ∃p c e f,σ id=some p/\w.heap[p.b]?=some (.cells c e f)/\p.d+p.r<=c.size/\cs.length<=p.r/\∀(i:Nat) (a:AV),cs[i]?=some a->∃v,c[p.d+i]?=some v/\V σ a v:=by
 obtain⟨p,hp,hor⟩:=hr.obj id _ ho
 rcases hi with⟨f,rfl⟩ | rfl
 ·obtain⟨c,e,h1,h2,h3,h4⟩:=hor;exact⟨p,c,e,_,hp,h1,h2,h3,h4⟩
 ·obtain⟨c,e,f,h1,h2,h3,h4⟩:=hor;exact⟨p,c,e,f,hp,h1,h2,h3,h4⟩
variable{off:Nat}
def H.NH{id n:Nat}(hc:h.chunk id off n=some cs):
 ∃o bs,h.aW.get id=some o/\RR o bs/\off+n<=bs.length/\cs=(bs.drop off).take n:=by
 unfold H.chunk at hc;split at hc
 ·rename_i bs f ho;obtain⟨h1,h2⟩:=aH hc;simp only[qr] at h2;exact⟨_,bs,ho,.inl ⟨f,rfl⟩,jq h1,h2.symm⟩
 ·rename_i bs ho;obtain⟨h1,h2⟩:=aH hc;simp only[qr] at h2;exact⟨_,bs,ho,.inr rfl,jq h1,h2.symm⟩
 ·simp at hc
def HR.chunk(hr:HR σ h w){id n:Nat}(hc:h.chunk id off n=some cs)(hp:σ id=some p):
 ∃vs,VL σ cs vs/\cs.length=n/\∀(j:Nat) (v:Value),vs[j]?=some v->w.cell? ⟨p.b,p.d+off+j,none⟩=some v:=by
 obtain⟨o,bs,ho,hi,hle,rfl⟩:=H.NH hc;obtain⟨q,c,e,f,hq,h1,h2,h3,h4⟩:=hr.row ho hi;rw[hp] at hq;cases hq
 have hlen:((bs.drop off).take n).length=n:=by simp;omega
 have hsz:∀j,j<n->p.d+(off+j)<c.size:=λj hj=>by omega
 refine⟨(List.range n).map λj=>(c[p.d+(off+j)]?).getD undef,⟨by simp;omega,?_⟩,hlen,?_⟩
 ·intro i a v ha hv
  have hi:i<n:=by
   rcases aT i n with h | h
   ·exact h
   ·rw[ad i4] at ha;simp at ha
  rw[am,ut hi,bb] at ha;obtain⟨u,hu,hV⟩:=h4 _ _ ha;rw[bh,bt hi] at hv;simp only[m6,qr] at hv;rw[<-hv,hu];exact hV
 ·intro j v hv
  have hj:j<n:=by
   rcases aT j n with h | h
   ·exact h
   ·rw[ad (by simp;omega)] at hv;simp at hv
  rw[bh,bt hj] at hv;simp only[m6,qr] at hv;rw[cell_of h1,show p.d+off+j=p.d+(off+j) by omega,a0 (hsz j hj)];rw[a0 (hsz j hj)] at hv;simpa using hv
variable{P:Program}
def oC{b o:Nat}(h:∀(j:Nat) (v:Value),vs[j]?=some v->w.cell? ⟨b,o+j,none⟩=some v):
 (loadCells ⟨b,o,none⟩ vs.length).run P w=.ok vs.toArray w:=
 run_loadCells_list w _ vs λj v hv=>by rw[gO];exact h j v hv
variable{t:TypeId}
def cX{i:TypeInfo}(h:P.info? t=some i):(typeInfo t).run P w=.ok i w:=by
 simp[typeInfo,h]
def aQ{d:TypeDesc}(h:P.underlying t=some d):(Go.underlying t).run P w=.ok d w:=by
 simp[Go.underlying,h]
def bR{t n:Nat}(h:cF P t=some n):(sizeOf t).run P w=.ok n w:=by
 unfold cF at h
 cases hi:P.info? t with
 | none=>simp[hi] at h
 | some i=>simp[hi] at h;subst h;simp[sizeOf,cX hi]
def na{t:Nat}{b:Bool}(h:qO P t=some b):(isAgg t).run P w=.ok b w:=by
 unfold qO at h
 cases hi:P.underlying t with
 | none=>simp[hi] at h
 | some d=>
  simp only[hi,m6,qr] at h;subst h;simp only[isAgg,ne,aQ hi,pp];cases d<;>simp
def iK{t:Nat}{z:AV}(h:di P t=some z):∃v,(zeroValue t).run P w=.ok v w/\V σ z v/\∃i,P.info? t=some i/\i.zero=some v:=by
 unfold di at h
 cases hi:P.info? t with
 | none=>simp[hi] at h
 | some i=>
  simp only[hi,m7] at h
  cases hz:i.zero with
  | none=>simp[hz] at h
  | some v=>
   simp only[hz,m7] at h;exact⟨v,by simp[zeroValue,cX hi,hz],Nj _ _ _ h,i,rfl,hz⟩
def HR.Gb(hr:HR σ h w){t id:Nat}{a:AV}(hl:h.load P t id off=some a)(hp:σ id=some p):
 ∃v,(loadVar t ⟨p.b,p.d+off,none⟩).run P w=.ok v w/\V σ a v:=by
 unfold H.load at hl;split at hl
 ·rename_i hag
  cases hn:cF P t with
  | none=>simp[hn] at hl
  | some n=>
   simp only[hn,m7] at hl
   cases hc:h.chunk id off n with
   | none=>simp[hc] at hl
   | some cs=>
    simp only[hc,m6,qr] at hl;subst hl;obtain⟨vs,hvl,hlen,hcell⟩:=hr.chunk hc hp;refine⟨.agg vs.toArray,?_,.Tb hvl⟩
    have hl:vs.length=n:=by rw[<-hvl.1];exact hlen
    simp only[loadVar,ne,na hag,pp,if_true,bR hn];rw[<-hl,oC hcell];simp
 ·rename_i hag;split at hl
  ·rename_i cs f ho;obtain⟨q,c,e,hq,h1,h2,h3,h4⟩:=hr.cells ho;rw[hp] at hq;cases hq;obtain⟨v,hv,hV⟩:=h4 _ _ hl;refine⟨v,?_,hV⟩
   have hcell:w.cell? ⟨p.b,p.d+off,none⟩=some v:=by rw[cell_of h1];exact hv
   simp[loadVar,na hag,hcell]
  ·rename_i cs ho;obtain⟨q,c,e,f,hq,h1,h2,h3,h4⟩:=hr.row ho (.inr rfl);rw[hp] at hq;cases hq;obtain⟨v,hv,hV⟩:=h4 _ _ hl;refine⟨v,?_,hV⟩
   have hcell:w.cell? ⟨p.b,p.d+off,none⟩=some v:=by rw[cell_of h1];exact hv
   simp[loadVar,na hag,hcell]
  ·simp at hl
 ·simp at hl
def jw{t:Nat}{vs:Array Value}{a:AV}(hvs:VL σ cs vs.toList)(hl:e9 P t cs off=some a):
 ∃v,(part t vs off).run P w=.ok v w/\V σ a v:=by
 unfold e9 at hl;split at hl
 ·rename_i hag
  cases hn:cF P t with
  | none=>simp[hn] at hl
  | some n=>
   simp only[hn,m7] at hl;obtain⟨hle,he⟩:=aH hl;simp only[qr] at he;subst he;refine⟨.agg (vs.extract off (off+n)),?_,.xU ?_⟩
   ·simp[part,na hag,bR hn]
   ·have:(vs.extract off (off+n)).toList=(vs.toList.drop off).take n:=by simp
    rw[this];exact(hvs.drop off).take n
 ·rename_i hag;obtain⟨v,hv,hV⟩:=hvs.get hl;refine⟨v,?_,hV⟩
  have hv':vs[off]?=some v:=by simpa using hv
  simp[part,na hag,hv']
 ·simp at hl
def dR(a b:Nat):hY a b<=a/\hY a b<=b:=by
 unfold hY;cases h:ble a b
 ·have:=xG h;simp only[aA];omega
 ·have:=jq h;simp only[aq];omega
variable{h':H}
def HR.update(hr:HR σ h w){id:Nat}{o':AO}(ho:h.aW.get id=some o)(hp:σ id=some p)
 (hg:∀j x,h'.aW.get j=some x->(j=id/\x=o')\/(j≠id/\h.aW.get j=some x/\∀q,σ j=some q->q.b≠p.b))
 (hnext:h'.next=h.next) (hfam:∀i cs f,h'.aW.get i=some (.cells cs f)->f<h.next/\∃x y,h'.dC.get f=some (x,y)/\(i=x\/i=y))
 (hor:OR σ o' p w'.heap[p.b]?) (hw:∀b,b≠p.b->w'.heap[b]?=w.heap[b]?) (hs:w'.heap.size=w.heap.size) (e1:w'.os=w.os) (e2:w'.tape=w.tape) (e3:w'.output=w.output)
 (hlow:h'.low<=h.low) (hsame:∀j,j<h'.low->j<h.next->h'.aW.get j=h.aW.get j)
 (hof:∀cs f,o'=.cells cs f->∃cs',o=.cells cs' f:=by first | (intro cs f e;cases e;done) | (intro cs f e;cases e;exact⟨_,rfl⟩))
 (hown:P7 o:=by (intro cs e;cases e)):HR σ h' w'/\Ext σ σ h h' w w':=by
 refine⟨⟨?_,?_,?_,?_,?_⟩,⟨λ_ _ h=>h,by omega,by omega,e1,e2,e3,?_,?_,hlow,hsame,λ_ _ h=>h,?_⟩⟩
 ·intro j x hx
  rcases hg j x hx with⟨rfl,rfl⟩ | ⟨_,h2,h3⟩
  ·exact⟨p,hp,hor⟩
  ·obtain⟨q,hq,hq2⟩:=hr.obj j x h2;exact⟨q,hq,by rw[hw _ (h3 q hq)];exact hq2⟩
 ·intro j hj;exact hr.fresh j i4
 ·intro i j x y q1 q2 hij hx hy h1 h2 hb
  rcases hg i x hx with⟨rfl,rfl⟩ | ⟨_,a2,a3⟩
  ·rcases hg j y hy with⟨rfl,rfl⟩ | ⟨_,b2,b3⟩
   ·exact un rfl hij
   ·rw[hp] at h1;cases h1;exact un hb.symm (b3 _ h2)
  ·rcases hg j y hy with⟨rfl,rfl⟩ | ⟨_,b2,b3⟩
   ·rw[hp] at h2;cases h2;exact un hb (a3 _ h1)
   ·exact hr.sep i j x y q1 q2 hij a2 b2 h1 h2 hb
 ·intro i cs f hi;rw[hnext];exact hfam i cs f hi
 ·have:=hr.DE;omega
 ·intro j x q hx hq
  rcases hg j x hx with⟨rfl,rfl⟩ | ⟨_,h2,_⟩
  ·exact .inr ⟨j,o,q,ho,hq,rfl,λ_=>hown⟩
  ·exact .inr ⟨j,x,q,h2,hq,rfl,λh=>h⟩
 ·intro b _ hn;exact hw b λe=>hn id o p ho hown hp e.symm
 ·intro j cs f hj
  rcases hg j _ hj with⟨rfl,e⟩ | ⟨_,h2,_⟩
  ·obtain⟨cs',e'⟩:=hof cs f e.symm;exact .inr ⟨j,cs',e'▸ho⟩
  ·exact .inr ⟨j,cs,h2⟩
def Li{id bX x y:Nat}(hf:h.dC.get bX=some (x,y))(j:Nat):
 (h.alone id bX).aW.get j=if (j=x\/j=y)/\j≠id/\(id=x\/id=y) then none else if (j=x\/j=y)/\j≠id then (h.alone id bX).aW.get j else h.aW.get j:=by
 unfold H.alone;rw[hf];simp only;cases hx:beq x id<;>cases hy:beq y id<;>simp only[Bool.and_true,Bool.and_false,aq,aA]
 ·have:=iw hx;have:=iw hy;rw[dz,dz];by_cases h1:j=y<;>by_cases h2:j=x<;>simp[h1,h2]<;>omega
 ·have:=iw hx;have:=cS hy;rw[dz];by_cases h1:j=x
  ·subst h1;simp;omega
  ·rw[v6 h1];by_cases h2:j=y<;>simp[h1,h2]<;>omega
 ·have:=cS hx;have:=iw hy;rw[dz];by_cases h1:j=y
  ·subst h1;simp;omega
  ·rw[v6 h1];by_cases h2:j=x<;>simp[h1,h2]<;>omega
 ·have:=cS hx;have:=cS hy;subst x;subst y;by_cases h1:j=id<;>simp[h1]
def nG(hr:HR σ h w){id bX:Nat}(ho:h.aW.get id=some (.cells cs bX)):
 (h.alone id bX).aW.get id=some (.cells cs bX)/\
 (∀j o,(h.alone id bX).aW.get j=some o->h.aW.get j=some o)/\
 (∀j cs',(h.alone id bX).aW.get j=some (.cells cs' bX)->j=id)/\
 (h.alone id bX).next=h.next/\
 (∃x y,(h.alone id bX).dC.get bX=some (x,y)/\(id=x\/id=y))/\
 (∀f,f≠bX->(h.alone id bX).dC.get f=h.dC.get f)/\
 (h.alone id bX).low<=h.low/\
 (∀j,j<(h.alone id bX).low->(h.alone id bX).aW.get j=h.aW.get j):=by
 obtain⟨_,x,y,hf,hxy⟩:=hr.bX id cs bX ho
 have hget:∀j,(h.alone id bX).aW.get j=if (j=x\/j=y)/\j≠id then none else h.aW.get j:=by
  intro j;rw[Li hf j];by_cases hc:(j=x\/j=y)/\j≠id
  ·rw[ut ⟨hc.1,hc.2,hxy⟩,ut hc]
  ·rw[v6 (λh=>hc ⟨h.1,h.2.1⟩),v6 hc,v6 hc]
 refine⟨by rw[hget,v6 ge,ho],?_,?_,?_,?_,?_,?_,?_⟩
 ·intro j o hj;rw[hget] at hj;split at hj
  ·cases hj
  ·exact hj
 ·intro j cs' hj;rw[hget] at hj;split at hj
  ·cases hj
  ·rename_i hn;obtain⟨_,x',y',hf',hj'⟩:=hr.bX j cs' bX hj;rw[hf] at hf';cases hf';apply Classical.byContradiction;intro hne;exact hn ⟨hj',hne⟩
 ·unfold H.alone;rw[hf];simp only;cases (beq x id&&beq y id)<;>rfl
 ·unfold H.alone;rw[hf];simp only;cases hb:(beq x id&&beq y id)
  ·exact⟨id,id,by rw[aA];exact cW _ _ _,.inl rfl⟩
  ·exact⟨x,y,hf,hxy⟩
 ·intro f hne;unfold H.alone;rw[hf];simp only;cases (beq x id&&beq y id)
  ·rw[aA];exact bn _ _ hne
  ·rfl
 ·unfold H.alone;rw[hf];simp only;cases (beq x id&&beq y id)
  ·rw[aA];exact(dR _ _).1
  ·exact ac _
 ·intro j hj;rw[hget];split
  ·rename_i hc
   have hlt:j<hY x y:=by
    unfold H.alone at hj;rw[hf] at hj;simp only at hj;cases hb:(beq x id&&beq y id)
    ·rw[hb,aA] at hj;exact al hj (dR _ _).2
    ·simp only[aa] at hb;have:=cS hb.1;have:=cS hb.2;omega
   have:=dR x y;omega
  ·rfl
def World.Bk{b o:Nat}{f:Nat×Nat}(h:w.heap[b]?=some (.cells c e f))(v:Value):
 (w.setCell ⟨b,o,none⟩ v).heap[b]?=some (.cells (c.setIfInBounds o v) e f):=by
 simp[World.setCell,bq,h]
def World.Am{b k o:Nat}(v:Value)(hk:k≠b):(w.setCell ⟨b,o,none⟩ v).heap[k]?=w.heap[k]?:=by
 simp only[World.setCell,bq];rw[v6 (λh=>hk h.symm)]
def nf{P:Program}{b o:Nat}{e:TypeId}:∀(vs:List Value) (i:Nat) (w:World) (c:Array Value),w.heap[b]?=some (.cells c e (0,0))->o+i+vs.length<=c.size->(∀v∈vs,v.oneCell'=true)->
 ∃w' c',(storeCells ⟨b,o,none⟩ vs i).run P w=.ok () w'/\w'.heap[b]?=some (.cells c' e (0,0))/\c'.size=c.size/\
  (∀j:Nat,c'[j]?=if o+i<=j/\j<o+i+vs.length then vs[j-(o+i)]? else c[j]?)/\(∀k,k≠b->w'.heap[k]?=w.heap[k]?)/\
  w'.heap.size=w.heap.size/\w'.os=w.os/\w'.tape=w.tape/\w'.output=w.output
 | [],i,w,c,h,_,_=>⟨w,c,by simp[storeCells],h,rfl,λj=>by rw[v6 (by simp only[i5];omega)],λ_ _=>rfl,rfl,rfl,rfl,rfl⟩
 | v::vs,i,w,c,h,hlen,hone=>by
  simp only[i7] at hlen
  have hcell:w.cell? ⟨b,o+i,none⟩=some (c[o+i]' i4):=by rw[cell_of h];exact Array.getElem?_eq_getElem _
  have h1:(w.setCell ⟨b,o+i,none⟩ v).heap[b]?=some (.cells (c.setIfInBounds (o+i) v) e (0,0)):=World.Bk h v;obtain⟨w',c',hrun,hw',hsz,hget,hoth,s1,s2,s3,s4⟩:=nf (P:=P) (o:=o) vs (i+1) (w.setCell ⟨b,o+i,none⟩ v) (c.setIfInBounds (o+i) v) h1 (by simp;omega) (λu hu=>hone u (by simp[hu]));refine⟨w',c',?_,hw',by simpa using hsz,?_,?_,?_,?_,?_,?_⟩
  ·simp only[storeCells,ne,gO];rw[run_store P w _ v .plain (hone v ge),hcell];simp only[vn h,Bool.false_eq_true,if_false,pp];exact hrun
  ·intro j;rw[hget];by_cases hj:o+(i+1)<=j/\j<o+(i+1)+vs.length
   ·rw[ut hj,ut (by simp;omega)];rw[show j-(o+i)=(j-(o+(i+1)))+1 by omega,List.getElem?_cons_succ]
   ·rw[v6 hj,Array.getElem?_setIfInBounds];by_cases hj2:o+i=j
    ·subst hj2;rw[ut rfl,ut i4,ut ge];simp
    ·rw[v6 hj2,v6 (by simp;omega)]
  ·intro k hk;rw[hoth k hk,World.Am _ hk]
  ·rw[s1];simp
  ·rw[s2];rfl
  ·rw[s3];rfl
  ·rw[s4];rfl
def lJ(cs vs:List α)(off:Nat)(h:off+vs.length<=cs.length)(j:Nat):
 (cs.take off++(vs++cs.drop (off+vs.length)))[j]?=if off<=j/\j<off+vs.length then vs[j-off]? else cs[j]?:=by
 have h1:(cs.take off).length=off:=by simp;omega
 rw[ap,h1];by_cases ha:j<off
 ·rw[ut ha,v6 i4,am,ut ha]
 ·rw[v6 ha,ap];by_cases hb:j-off<vs.length
  ·rw[ut hb,ut i4]
  ·rw[v6 hb,v6 i4,bb]
   congr 1;omega
def HR.rV(hr:HR σ h w){id:Nat}(hs:h.store id off aS=some h')(hp:σ id=some p)(hv:VL σ aS vs):
 ∃w',(storeCells ⟨p.b,p.d+off,none⟩ vs).run P w=.ok () w'/\HR σ h' w'/\Ext σ σ h h' w w':=by
 unfold H.store at hs;split at hs
 ·rename_i cs bX ho;obtain⟨hc,he⟩:=aH hs;simp only[aa] at hc;obtain⟨hle,hone⟩:=hc;have hle:=jq hle;simp only[qr] at he;obtain⟨q,c,e,hq,h1,h2,h3,h4⟩:=hr.cells ho;rw[hp] at hq;cases hq;have hl:=hv.1;obtain⟨w',c',hrun,hw',hsz,hget,hoth,s1,s2,s3,s4⟩:=nf (P:=P) (o:=p.d+off) vs 0 w c h1 i4 (hv.ki hone);obtain⟨a1,a2,a3,a4,a5,a6,a7,a8⟩:=nG hr ho;refine⟨w',hrun,?_⟩;subst he;refine hr.update (o':=.cells (cs.take off++(aS++cs.drop (off+aS.length))) bX) ho hp ?_ a4 ?_ ?_ hoth s1 s2 s3 s4 (ay (dR _ _).1 a7) ?_
  ·intro j x hx;simp only[dz] at hx;split at hx
   ·rename_i e;cases hx;exact .inl ⟨e,rfl⟩
   ·rename_i hne;have hx':=a2 j x hx;refine .inr ⟨hne,hx',?_⟩;intro q hq hb;obtain⟨cs1,e1⟩:=(hr.sep j id x _ q p hne hx' ho hq hp hb).left;subst e1;exact hne (a3 j cs1 hx)
  ·intro i cs' f hi;simp only[dz] at hi;split at hi
   ·rename_i e;cases hi;subst e;exact⟨(hr.bX i _ _ ho).1,a5⟩
   ·rename_i hne;have hi':=a2 _ _ hi;obtain⟨b1,x,y,b2,b3⟩:=hr.bX i _ _ hi';refine⟨b1,x,y,?_,b3⟩;rw[a6 f (λe=>hne (a3 i cs' (e▸hi)))];exact b2
  ·refine⟨c',e,hw',by rw[hsz];exact h2,by simp;omega,?_⟩;intro i a ha;rw[lJ _ _ _ hle] at ha;rw[hget];by_cases hi:off<=i/\i<off+aS.length
   ·rw[ut hi] at ha;rw[ut i4];obtain⟨v,hv1,hv2⟩:=hv.get ha;exact⟨v,by rw[show p.d+i-(p.d+off+0)=i-off by omega];exact hv1,hv2⟩
   ·rw[v6 hi] at ha;rw[v6 i4];exact h4 i a ha
  ·intro j hj hjn;simp only[dz];have hm:=dR (h.alone id bX).low id;rw[v6 (by simp only at hj;omega)];exact a8 j (by simp only at hj;omega)
 ·simp at hs
def HR.D4(hr:HR σ h w){t id:Nat}{a:AV}(hs:h.storeVar P t id off a=some h')(hp:σ id=some p)(hv:V σ a v):
 ∃w',(storeVar t ⟨p.b,p.d+off,none⟩ v).run P w=.ok () w'/\HR σ h' w'/\Ext σ σ h h' w w':=by
 unfold H.storeVar at hs
 cases hn:cF P t with
 | none=>simp[hn] at hs
 | some n=>
  simp only[hn,m7] at hs;obtain⟨hc,he⟩:=aH hs;have hc:=cS hc;obtain⟨w',hrun,h1,h2⟩:=hr.rV (P:=P) he hp hv.cells;refine⟨w',?_,h1,h2⟩
  have hsz:v.cells.size=n:=by have:=hv.cells.1;simp at this;omega
  simp only[storeVar,ne,bR hn,pp,hsz,ne_eq,not_true_eq_false,if_false];simpa using hrun
def up(σ:Sg)(id:Nat)(p:sZ):Sg:=λj=>if j=id then some p else σ j
def pq{id:Nat}(h:σ id=none):∀j q,σ j=some q->up σ id p j=some q:=by
 intro j q hq;unfold up;split
 ·rename_i e;subst e;rw[h] at hq;cases hq
 ·exact hq
def ew(σ:Sg)(id:Nat)(p:sZ):up σ id p id=some p:=by simp[up]
def rM(h:H)(id:Nat)(o:AO)(j:Nat):(h.lay id o).aW.get j=if j=id then some o else h.aW.get j:=by
 unfold H.lay;split<;>exact dz _ _ _ _
def qR(h:H)(id:Nat)(o:AO):(h.lay id o).next=h.next:=by unfold H.lay;split<;>rfl
def DA(h:H)(id:Nat)(o:AO):(h.lay id o).low=h.low:=by unfold H.lay;split<;>rfl
def HR.lay{σ:Sg}{h:H}{w w':World}(hr:HR σ h w){id r:Nat}{o:AO}{ob:Obj}(hid:σ id=none)(hlt:id<h.next)(hlow:h.low<=id)
 (hf:∀j cs,h.aW.get j≠some (.cells cs id)) (hof:∀cs f,o=.cells cs f->f=id)
 (hor:OR (up σ id ⟨w.heap.size,0,r⟩) o ⟨w.heap.size,0,r⟩ (some ob)) (hw:w'.heap=w.heap.push ob) (e1:w'.os=w.os) (e2:w'.tape=w.tape) (e3:w'.output=w.output):
 HR (up σ id ⟨w.heap.size,0,r⟩) (h.lay id o) w'/\Ext σ (up σ id ⟨w.heap.size,0,r⟩) { h with next:=id } (h.lay id o) w w':=by
 have hle:=pq (p:=⟨w.heap.size,0,r⟩) hid
 have hnone:h.aW.get id=none:=by
  cases hg:h.aW.get id with
  | none=>rfl
  | some x=>obtain⟨p,hp,_⟩:=hr.obj id x hg;rw[hid] at hp;cases hp
 have hold:∀b,b<w.heap.size->w'.heap[b]?=w.heap[b]?:=by
  intro b hb;rw[hw,bF,v6 i4]
 have hother:∀j x,h.aW.get j=some x->∀q,up σ id ⟨w.heap.size,0,r⟩ j=some q->σ j=some q/\q.b<w.heap.size:=by
  intro j x hx q hq
  have hj:j≠id:=λe=>by subst e;rw[hnone] at hx;cases hx
  have:σ j=some q:=by simpa [up,hj] using hq
  exact⟨this,hr.lt hx this⟩
 refine⟨⟨?_,?_,?_,?_,?_⟩,⟨hle,by rw[qR];simp only;omega,by rw[hw];simp,e1,e2,e3,?_,?_,by rw[DA];simp,?_,?_,?_⟩⟩
 ·intro j x hx;rw[rM] at hx;split at hx
  ·rename_i e;cases hx;subst e;refine⟨_,ew _ _ _,?_⟩;rw[hw];simpa using hor
  ·obtain⟨p,hp,h2⟩:=hr.obj j x hx;have:=hr.lt hx hp;exact⟨p,hle _ _ hp,by rw[hold _ this];exact h2.mono hle⟩
 ·intro j hj;rw[qR] at hj
  have:j≠id:=by omega
  simp[up,this,hr.fresh j hj]
 ·intro i j x y p q hij hx hy hp hq hb;rw[rM] at hx hy;split at hx
  ·rename_i e1;split at hy
   ·omega
   ·subst e1;cases hx;have h1:=hother j y hy q hq;rw[ew] at hp;cases hp;simp only at hb;omega
  ·split at hy
   ·rename_i e1;subst e1;cases hy;have h1:=hother i x hx p hp;rw[ew] at hq;cases hq;simp only at hb;omega
   ·exact hr.sep i j x y p q hij hx hy (hother i x hx p hp).1 (hother j y hy q hq).1 hb
 ·intro i cs f hi;rw[rM] at hi;split at hi
  ·rename_i e;cases hi;subst e;have:=hof cs f rfl;subst this;refine⟨by rw[qR];omega,f,f,?_,.inl rfl⟩;unfold H.lay;exact cW _ _ _
  ·obtain⟨b1,x,y,b2,b3⟩:=hr.bX i cs f hi;refine⟨by rw[qR];omega,x,y,?_,b3⟩;have hne:f≠id:=λe=>hf i cs (e▸hi);unfold H.lay;split
   ·simp only;rw[bn _ _ hne];exact b2
   ·exact b2
 ·rw[DA,qR];exact hr.DE
 ·intro j x q hx hq;rw[rM] at hx;split at hx
  ·rename_i e;subst e;rw[ew] at hq;cases hq;exact .inl (ac _)
  ·exact .inr ⟨j,x,q,hx,(hother j x hx q hq).1,rfl,λh=>h⟩
 ·intro b hb _;exact hold b hb
 ·intro j hj hjn;rw[DA] at hj;rw[rM,v6 i4]
 ·intro j hj hn;have hj:j<id:=hj;simp only[up];rw[v6 i4];exact hn
 ·intro j cs f hj;rw[rM] at hj;split at hj
  ·cases hj;exact .inl (Nat.le_of_eq (hof cs f rfl).symm)
  ·exact .inr ⟨j,cs,hj⟩
def HR.more(hr:HR σ h w)(n:Nat)(hn:h.next<=n):HR σ { h with next:=n } w:=
 ⟨hr.obj,λid hid=>hr.fresh id (ay hn hid),hr.sep,λi cs f hi=>let ⟨a,b⟩:=hr.bX i cs f hi;⟨al a hn,b⟩,ay hr.DE hn⟩
def Ext.more{σ':Sg}{n:Nat}(hn:h.next<=n)(he:Ext σ σ' { h with next:=n } h' w w'):Ext σ σ' h h' w w':=
 ⟨he.le,ay hn he.next,he.size,he.os,he.tape,he.output,he.TP,he.frame,he.low,λid h1 h2=>he.same id h1 (al h2 hn),λid h1 h2=>he.mE id (al h1 hn) h2,
  λid cs f ho=>(he.dC id cs f ho).imp (λh=>ay hn h) (λh=>h)⟩
def F7(h:H)(id n:Nat)(o:AO):{ h.lay id o with next:=n }=({ h with next:=n }:H).lay id o:=by unfold H.lay;split<;>rfl
def HR.new(hr:HR σ h w){r:Nat}{ob:Obj}(hof:∀cs f,o=.cells cs f->f=h.next)
 (hor:OR (up σ h.next ⟨w.heap.size,0,r⟩) o ⟨w.heap.size,0,r⟩ (some ob)) (hw:w'.heap=w.heap.push ob) (e1:w'.os=w.os) (e2:w'.tape=w.tape) (e3:w'.output=w.output):
 HR (up σ h.next ⟨w.heap.size,0,r⟩) { h.lay h.next o with next:=h.next+1 } w'/\Ext σ (up σ h.next ⟨w.heap.size,0,r⟩) h { h.lay h.next o with next:=h.next+1 } w w':=by
 rw[F7]
 have:=HR.lay (hr.more (h.next+1) i4) (id:=h.next) (o:=o) (ob:=ob) (w':=w') (r:=r) (hr.fresh _ (ac _)) ge hr.DE
  (λj cs hj=>by have:=(hr.bX j cs _ hj).1;omega) hof hor hw e1 e2 e3
 exact⟨this.1,this.2⟩
def HY{id b:Nat}(hv:VL σ aS vs)(hc:c.toList.take vs.length=vs):OR σ (.cells aS id) ⟨b,0,c.size⟩ (some (.cells c e (0,0))):=by
 have hlen:vs.length<=c.size:=by
  have:=rc ct hc;simp at this;omega
 refine⟨c,e,rfl,by simp,by have:=hv.1;simp only;omega,?_⟩;intro i a ha;obtain⟨v,h1,h2⟩:=hv.get ha;refine⟨v,?_,h2⟩
 have hi:i<vs.length:=by
  rcases aT i vs.length with h | h
  ·exact h
  ·simp[ad h] at h1
 rw[<-hc,am,ut hi] at h1;simpa using h1
def np:∀(x y:List UInt8),x.map (·.toNat)=y.map (·.toNat)->x=y
 | [],[],_=>rfl
 | [],b::y,h=>by simp at h
 | a::x,[],h=>by simp at h
 | a::x,b::y,h=>by
  simp only[cb,mt] at h;rw[UInt8.toNat_inj.1 h.1,np x y h.2]
def rA{a b:List Nat}{s t:ByteArray}(h:s.data.toList.map (·.toNat)=a)(k:t.data.toList.map (·.toNat)=b):ve a b=(s.toList==t.toList):=by
 rw[xL,ByteArray.toList_eq,ByteArray.toList_eq,<-h,<-k];by_cases e:s.data.toList=t.data.toList
 ·simp[e]
 ·have:¬(s.data.toList.map (·.toNat)=t.data.toList.map (·.toNat)):=λh=>e (np _ _ h);simp only[this,decide_false];symm;exact beq_eq_false_iff_ne.2 e
def oW:∀(x y:List UInt8),fF (x.map (·.toNat)) (y.map (·.toNat))=Op.bytesLess x y
 | x,[]=>by cases x<;>simp[fF,Op.bytesLess]
 | [],b::y=>by simp[fF,Op.bytesLess]
 | a::x,b::y=>by
  simp only[cb,fF,Op.bytesLess,oW x y]
  have e1:blt a.toNat b.toNat=decide (a<b):=by
   cases h:blt a.toNat b.toNat
   ·have:=J7 h;symm;simp[UInt8.lt_iff_toNat_lt];omega
   ·have:=fZ h;symm;simp[UInt8.lt_iff_toNat_lt];omega
  have e2:beq a.toNat b.toNat=(a==b):=by
   cases h:beq a.toNat b.toNat
   ·have:=iw h;symm;simp;intro e;subst e;exact this rfl
   ·have:=cS h;symm;simp;exact UInt8.toNat_inj.1 this
  rw[e1,e2]
def uA{l:List Nat}{s:ByteArray}(h:s.data.toList.map (·.toNat)=l):s.size=l.length:=by
 rw[<-h,List.length_map,Array.length_toList];rfl
def uq{P:Program}{σ:Sg}{w:World}{d D:Nat}(ih:∀(t:TypeId) (x y:AV) (v u:Value) (b:Bool),lG P d t x y=some b->V σ x v->V σ y u->(Op.equalIn D t v u).run P w=.ok b w)
 {xs ys:List AV} {vs us:Array Value} (hx:VL σ xs vs.toList) (hy:VL σ ys us.toList):∀(fs:List Field) (b:Bool),eqFields P (lG P d) fs xs ys=some b->(Op.eqFields D vs us fs).run P w=.ok b w
 | [],b,h=>by simp[eqFields] at h;subst h;rfl
 | f::fs,b,h=>by
  simp only[eqFields] at h;cases hn:f.name== "_"
  ·rw[hn,aA] at h
   have hne:f.name≠ "_":=by simpa using hn
   cases h1:e9 P f.type xs f.offset with
   | none=>simp[h1] at h
   | some a=>
    cases h2:e9 P f.type ys f.offset with
    | none=>simp[h1,h2] at h
    | some c=>
     simp only[h1,h2] at h;obtain⟨v,hv,hV⟩:=jw (w:=w) hx h1;obtain⟨u,hu,hU⟩:=jw (w:=w) hy h2;simp only[Op.eqFields,hne,ne_eq,not_false_eq_true,if_true,ne,hv,pp,hu]
     cases h3:lG P d f.type a c with
     | none=>simp[h3] at h
     | some r=>
      rw[ih _ _ _ _ _ _ h3 hV hU];cases r
      ·simp[h3] at h;subst h;simp
      ·simp only[h3] at h;simp only[pp,Bool.not_true,Bool.false_eq_true,if_false];exact uq ih hx hy fs b h
  ·simp[hn] at h
def wx{P:Program}{σ:Sg}{w:World}{d D e s:Nat}(ih:∀(t:TypeId) (x y:AV) (v u:Value) (b:Bool),lG P d t x y=some b->V σ x v->V σ y u->(Op.equalIn D t v u).run P w=.ok b w)
 {xs ys:List AV} {vs us:Array Value} (hx:VL σ xs vs.toList) (hy:VL σ ys us.toList):∀(m i:Nat) (b:Bool),tw P (lG P d e) e s xs ys m i=some b->
 (forIn (m:=Sem) (range' i m) ((none,()):Option Bool×Unit) λi _=>do
  let a <-part e vs (i*s)
  let c <-part e us (i*s)
  let q <-Op.equalIn D e a c
  if (!q)=true then pure (.done (some false,())) else pure (.yield (none,()))).run P w=.ok (if b then (none,()) else (some false,())) w
 | 0,i,b,h=>by simp[tw] at h;subst h;simp
 | m+1,i,b,h=>by
  simp only[tw] at h
  cases h1:e9 P e xs (i*s) with
  | none=>simp[h1] at h
  | some a=>
   cases h2:e9 P e ys (i*s) with
   | none=>simp[h1,h2] at h
   | some c=>
    simp only[h1,h2] at h;obtain⟨v,hv,hV⟩:=jw (w:=w) hx h1;obtain⟨u,hu,hU⟩:=jw (w:=w) hy h2;rw[ce,b8];simp only[ne,hv,pp,hu]
    cases h3:lG P d e a c with
    | none=>simp[h3] at h
    | some r=>
     rw[ih _ _ _ _ _ _ h3 hV hU];cases r
     ·simp[h3] at h;subst h;simp
     ·simp only[h3] at h;simp only[pp,bv,af,if_false,m9];exact wx ih hx hy m (i+1) b h
def Kh(k:Nat):∀(d:Nat) (t:TypeId) (x y:AV) (v u:Value) (b:Bool),lG P d t x y=some b->V σ x v->V σ y u->(Op.equalIn (d+k) t v u).run P w=.ok b w:=by
 intro d
 induction d with
 | zero=>intro t x y v u b h;simp[lG] at h
 | succ d ih=>
  intro t x y v u b h hv hu;rw[show d+1+k=(d+k)+1 by omega];simp only[lG] at h;split at h
  case h_1 hu'=>simp only[qr] at h;subst h;cases hv;cases hu;simp[Op.equalIn,aQ hu']
  case h_2 hu'=>
   obtain⟨hk,h⟩:=aH h;simp only[qr] at h;subst h;have:=(xN _ _).1 hk;subst this;cases hv;cases hu;simp[Op.equalIn,aQ hu',tx]
  case h_3 hu'=>
   simp only[qr] at h;subst h
   cases hv with
   | str h1=>cases hu with
    | str h2=>simp[Op.equalIn,aQ hu',rA h1 h2,beq_toListBytes]
  case h_4 hu'=>
   simp only[qr] at h;subst h;cases hv;cases hu<;>simp[Op.equalIn,aQ hu']
  case h_5 hu'=>simp only[qr] at h;subst h;cases hv;cases hu;simp[Op.equalIn,aQ hu']
  case h_6 hu'=>
   simp only[qr] at h;subst h;cases hv;cases hu<;>simp[Op.equalIn,aQ hu']
  case h_7 hu'=>simp only[qr] at h;subst h;cases hv;cases hu;simp[Op.equalIn,aQ hu']
  case h_8 hu'=>
   simp only[qr] at h;subst h;cases hv;cases hu<;>simp[Op.equalIn,aQ hu']
  case h_9 hu'=>simp only[qr] at h;subst h;cases hv;cases hu;simp[Op.equalIn,aQ hu']
  case h_10 hu'=>simp only[qr] at h;subst h;cases hv;cases hu;simp[Op.equalIn,aQ hu']
  case h_11 hu'=>simp only[qr] at h;subst h;cases hv;cases hu<;>simp[Op.equalIn,aQ hu']
  case h_12 hu'=>simp only[qr] at h;subst h;cases hu;cases hv<;>simp[Op.equalIn,aQ hu']
  case h_13 fs xs ys hu'=>
   cases hs:P.stoodInHeld t
   ·rw[hs,aA] at h;obtain⟨vs,rfl,hvs⟩:=hv.oB;obtain⟨us,rfl,hus⟩:=hu.oB
    have hf:P.fieldsOf t=fs:=by simp[Program.fieldsOf,hu']
    rw[run_equalIn_struct w (d+k) t vs us (by rw[hf];exact hu') hs,hf];exact uq (λt x y v u b h h1 h2=>ih t x y v u b h h1 h2) hvs hus _ _ h
   ·simp[hs] at h
  case h_14 n e xs ys hu'=>
   cases hs:cF P e with
   | none=>simp[hs] at h
   | some s=>
    simp only[hs,m7] at h;obtain⟨vs,rfl,hvs⟩:=hv.oB;obtain⟨us,rfl,hus⟩:=hu.oB;have hr:=wx (λt x y v u b h h1 h2=>ih t x y v u b h h1 h2) hvs hus n 0 b h;simp only[Op.equalIn,ne,aQ hu',pp,bR hs];simp only[Std.Legacy.Range.forIn_eq_forIn_range',Std.Legacy.Range.size,cn,b9,Nat.div_one];rw[hr];cases b<;>simp
  case h_15=>simp at h
def uo{P:Program}{σ:Sg}{w:World}{em:Bool}{D:Nat}{ck:TypeId->AV->Bool}(ih:∀(t:TypeId) (x:AV) (v:Value),ck t x=true->V σ x v->(Instr.checkKey em D t v).run P w=.ok () w)
 {xs:List AV} {vs:Array Value} (hx:VL σ xs vs.toList):∀(fs:List Field),oK P ck fs xs=true->
 (forIn (m:=Sem) fs PUnit.unit λf _=>if f.name≠ "_" then do
  let a <-part f.type vs f.offset
  Instr.checkKey em D f.type a
  pure (.yield PUnit.unit) else pure (.yield PUnit.unit)).run P w=.ok PUnit.unit w
 | [],_=>by simp
 | f::fs,h=>by
  simp only[oK,Bool.and_eq_true] at h;obtain⟨h1,h2,h3⟩:=h
  have hne:f.name≠ "_":=by simpa using h1
  cases h4:e9 P f.type xs f.offset with
  | none=>simp[h4] at h2
  | some a=>
   simp only[h4] at h2;obtain⟨v,hv,hV⟩:=jw (w:=w) hx h4;rw[List.forIn_cons];simp only[hne,ne_eq,not_false_eq_true,if_true,ne,hv,pp,ih _ _ _ h2 hV,m9];exact uo ih hx fs h3
def wu{P:Program}{σ:Sg}{w:World}{em:Bool}{D e s:Nat}{ck:AV->Bool}(ih:∀(x:AV) (v:Value),ck x=true->V σ x v->(Instr.checkKey em D e v).run P w=.ok () w)
 {xs:List AV} {vs:Array Value} (hx:VL σ xs vs.toList) (hs:cF P e=some s):∀(m i:Nat),xI P ck e s xs m i=true->
 (forIn (m:=Sem) (range' i m) PUnit.unit λi _=>do
  let n <-sizeOf e
  let a <-part e vs (i*n)
  Instr.checkKey em D e a
  pure (.yield PUnit.unit)).run P w=.ok PUnit.unit w
 | 0,i,_=>by simp
 | m+1,i,h=>by
  simp only[xI,aa] at h;obtain⟨h1,h2⟩:=h
  cases h4:e9 P e xs (i*s) with
  | none=>simp[h4] at h1
  | some a=>
   simp only[h4] at h1;obtain⟨v,hv,hV⟩:=jw (w:=w) hx h4;rw[ce,b8];simp only[ne,bR hs,hv,pp,ih _ _ h1 hV,m9];exact wu ih hx hs m (i+1) h2
def Qt(em:Bool)(k:Nat):∀(d:Nat) (t:TypeId) (x:AV) (v:Value),Fs P d t x=true->V σ x v->(Instr.checkKey em (d+k) t v).run P w=.ok () w:=by
 intro d
 induction d with
 | zero=>intro t x v h;simp[Fs] at h
 | succ d ih=>
  intro t x v h hv;rw[show d+1+k=(d+k)+1 by omega];simp only[Fs] at h;split at h
  case h_1 hu=>cases hv;simp[Instr.checkKey,aQ hu]
  case h_2 hu=>cases hv;simp[Instr.checkKey,aQ hu]
  case h_3 hu=>cases hv;simp[Instr.checkKey,aQ hu]
  case h_4 fs xs hu=>
   obtain⟨vs,rfl,hvs⟩:=hv.oB;have:=uo (w:=w) (em:=em) (λt x v h1 h2=>ih t x v h1 h2) hvs fs.toList h;simp only[Instr.checkKey,ne,aQ hu,pp];rw[<-Array.forIn_toList,this];simp
  case h_5 n e xs hu=>
   cases hs:cF P e with
   | none=>simp[hs] at h
   | some s=>
    simp only[hs] at h;obtain⟨vs,rfl,hvs⟩:=hv.oB;have:=wu (w:=w) (em:=em) (λx v h1 h2=>ih e x v h1 h2) hvs hs n 0 h;simp only[Instr.checkKey,ne,aQ hu,pp];simp only[Std.Legacy.Range.forIn_eq_forIn_range',Std.Legacy.Range.size,cn,b9,Nat.div_one];rw[this];simp
  case h_6=>simp at h
variable{x:AV}
def jR(h:xg P t x=true)(hv:V σ x v)(em:Bool):(Instr.checkKey em 10000 t v).run P w=.ok () w:=
 Qt em 9996 4 t x v h hv
def EL(σ:Sg)(es:List (AV×AV×Nat))(es':List MapEntry):Prop:=es.length=es'.length/\∀(i:Nat) (e:AV×AV×Nat) (m:MapEntry),es[i]?=some e->es'[i]?=some m->ER σ e m
def EL.cons{σ:Sg}{e:AV×AV×Nat}{es:List (AV×AV×Nat)}{l:List MapEntry}(h:EL σ (e::es) l):∃m l',l=m::l'/\ER σ e m/\EL σ es l':=by
 cases l with
 | nil=>have:=h.1;simp at this
 | cons m l'=>exact⟨m,l',rfl,h.2 0 e m ge ge,by have:=h.1;simpa using this,λi x y hx hy=>h.2 (i+1) x y (by simpa using hx) (by simpa using hy)⟩
def EL.nil{σ:Sg}{l:List MapEntry}(h:EL σ [] l):l=[]:=by
 cases l with
 | nil=>rfl
 | cons m l'=>have:=h.1;simp at this
def found(r:Option Nat)(i:Nat)(l:List MapEntry):Option (Nat×Value):=match r with
 | none=>none
 | some j=>(l[j-i]?).map λm=>(j,m.val)
def tI{P:Program}{kt:TypeId}{k:AV}:∀(es:List (AV×AV×Nat)) (i j:Nat),gW P kt k es i=some (some j)->i<=j/\j<i+es.length
 | [],i,j,h=>by simp[gW] at h
 | e::es,i,j,h=>by
  simp only[gW] at h;split at h
  ·simp at h;subst h;simp
  ·have:=tI es (i+1) j h;simp;omega
  ·simp at h
variable{l:List MapEntry}
def yQ{r:Option Nat}{m:MapEntry}(h:∀j,r=some j->i+1<=j):found r i (m::l)=found r (i+1) l:=by
 cases r with
 | none=>rfl
 | some j=>have:=h j rfl;simp only[found];rw[show j-i=(j-(i+1))+1 by omega,ax]
def qH{P:Program}{σ:Sg}{w:World}{kt:TypeId}{k:AV}{v:Value}(hk:V σ k v):∀(es:List (AV×AV×Nat)) (l:List MapEntry) (i:Nat) (r:Option Nat),
 gW P kt k es i=some r->EL σ es l->(Instr.findAsking kt v l i).run P w=.ok (found r i l) w
 | [],l,i,r,h,hl=>by have:=hl.nil;subst this;simp[gW] at h;subst h;simp[Instr.findAsking,found]
 | e::es,l,i,r,h,hl=>by
  obtain⟨m,l',rfl,he,hl'⟩:=hl.cons;simp only[gW] at h
  cases h1:lG P 4 kt k e.1 with
  | none=>simp[h1] at h
  | some b=>
   have hr:(Op.equal kt v m.key).run P w=.ok b w:=Kh 9996 4 kt k e.1 v m.key b h1 hk he.1;simp only[Instr.findAsking,ne,hr,pp];cases b
   ·simp only[h1] at h;rw[v6 ge,qH hk es l' (i+1) r h hl'];rw[yQ];intro j hj;subst hj;exact(tI es (i+1) j h).1
   ·simp only[h1,qr] at h;subst h;simp[found]
variable{y:AV}{u:Value}
def I4{d:Nat}{kt:TypeId}{kd:TypeDesc}(hu:P.underlying kt=some kd){b c:Bool}(h:lG P (d+1) kt x y=some b)(hx:V σ x v)(hy:V σ y u)(hn:Instr.sameNow kd v u=some c):c=b:=by
 simp only[lG,hu] at h;unfold Instr.sameNow at hn;split at hn
 ·cases hx with
  | any _=>simp at h
  | int=>cases hy with
   | any _=>simp at h
   | int=>
    obtain⟨h1,h2⟩:=aH h;have:=(xN _ _).1 h1;subst this;simp only[if_true,qr] at hn h2;rw[<-hn,<-h2,tx]
 ·cases hx with
  | any _=>simp at h
  | str h1=>cases hy with
   | any _=>simp at h
   | str h2=>
    simp only[qr] at h hn;rw[<-hn,<-h,rA h1 h2,beq_toListBytes]
 ·cases hx with
  | any _=>simp at h
  | bool=>cases hy with
   | any _=>simp at h
   | bool=>
    simp only[qr] at h hn;rw[<-hn,<-h]
 ·simp at hn
def yK{P:Program}{σ:Sg}{kt:TypeId}{kd:TypeDesc}(hu:P.underlying kt=some kd){k:AV}{v:Value}(hk:V σ k v):∀(es:List (AV×AV×Nat)) (l:List MapEntry) (i:Nat) (r:Option Nat) (q:Option (Nat×Value)),
 gW P kt k es i=some r->EL σ es l->Instr.findNow kd v l i=some q->q=found r i l
 | [],l,i,r,q,h,hl,hn=>by have:=hl.nil;subst this;simp[gW] at h;subst h;simp[Instr.findNow] at hn;subst hn;rfl
 | e::es,l,i,r,q,h,hl,hn=>by
  obtain⟨m,l',rfl,he,hl'⟩:=hl.cons;simp only[gW] at h
  cases h1:lG P 4 kt k e.1 with
  | none=>simp[h1] at h
  | some b=>
   simp only[Instr.findNow] at hn
   cases hs:Instr.sameNow kd v m.key with
   | none=>simp[hs] at hn
   | some c=>
    have:=I4 hu h1 hk he.1 hs;subst this;cases c
    ·simp only[h1] at h;simp only[hs] at hn;rw[yK hu hk es l' (i+1) r q h hl' hn,yQ];intro j hj;subst hj;exact(tI es (i+1) j h).1
    ·simp only[h1,qr] at h;simp only[hs,qr] at hn;subst h;subst hn;simp[found]
variable{es:List (AV×AV×Nat)}
def nK{kt:TypeId}{kd:TypeDesc}(hu:P.underlying kt=some kd){k:AV}(hk:V σ k v){r:Option Nat}
 (h:gW P kt k es 0=some r) (hl:EL σ es l):(Instr.findKey kt v l).run P w=.ok (found r 0 l) w:=by
 simp only[Instr.findKey,ne,aQ hu,pp]
 cases hn:Instr.findNow kd v l 0 with
 | some q=>rw[yK hu hk es l 0 r q h hl hn];simp
 | none=>exact qH hk es l 0 r h hl
def pA{eq:AV->AV->Bool}(ih:∀a b,eq a b=true->a=b):∀xs ys:List AV,fY eq xs ys=true->xs=ys
 | [],[],_=>rfl
 | [],_::_,h=>by simp[fY] at h
 | _::_,[],h=>by simp[fY] at h
 | x::xs,y::ys,h=>by
  simp only[fY,aa] at h;rw[ih x y h.1,pA ih xs ys h.2]
def N2:∀(n:Nat) (a b:AV),gV n a b=true->a=b:=by
 intro n
 induction n with
 | zero=>intro a b h;simp[gV] at h
 | succ n ih=>
  intro a b h;simp only[gV] at h;split at h
  case h_1=>simp at h;rw[h]
  case h_2=>simp only[aa] at h;have h2:=h.2;rw[tx] at h2;rw[(xN _ _).1 h.1,beq_iff_eq.1 h2]
  case h_3=>rw[xL] at h;rw[ww h]
  case h_4=>rfl
  case h_5=>simp only[aa] at h;rw[cS h.1,cS h.2]
  case h_6=>
   simp only[aa] at h;obtain⟨⟨⟨⟨h1,h2⟩,h3⟩,h4⟩,h5⟩:=h;rw[cS h1,cS h2,cS h3,cS h4];split at h5
   ·rfl
   ·rw[cS h5]
   ·simp at h5
  case h_7=>simp only[aa] at h;rw[cS h.1.1,cS h.1.2,cS h.2]
  case h_8=>rfl
  case h_9=>rw[cS h]
  case h_10=>rfl
  case h_11=>rfl
  case h_12=>rw[pA ih _ _ h]
  case h_13=>rw[pA ih _ _ h]
  case h_14=>rw[cS h]
  case h_15=>simp only[aa] at h;rw[cS h.1,pA ih _ _ h.2.1,pA ih _ _ h.2.2]
  case h_16=>simp only[aa] at h;rw[cS h.1,ih _ _ h.2]
  case h_17=>simp only[aa] at h;rw[ww h.1,pA ih _ _ h.2.1,pA ih _ _ h.2.2]
  case h_18=>simp at h
def tM(hf:mQ x=true)(h:V σ x v)(k:V σ x u):v=u/\∀n,Instr.sameBits n v u=true:=by
 cases x<;>simp[mQ] at hf
 ·cases h;cases k;exact⟨rfl,λn=>by cases n<;>simp[Instr.sameBits]⟩
 ·cases h;cases k;exact⟨rfl,λn=>by cases n<;>simp[Instr.sameBits]⟩
 ·cases h with
  | @str _ s h1=>cases k with
   | @str _ t h2=>
    have e:s=t:=by
     have:=np _ _ (h1.trans h2.symm);obtain⟨⟨a⟩⟩:=s;obtain⟨⟨b⟩⟩:=t;simp only at this;subst this;rfl
    subst e
    have hb:(s==s)=true:=by rw[beq_toListBytes];simp
    exact⟨rfl,λn=>by cases n<;>simpa [Instr.sameBits] using hb⟩
def BW{σ:Sg}:∀(xs:List AV) (vs us:List Value),xs.all mQ=true->VL σ xs vs->VL σ xs us->vs=us/\∀n,(vs.zip us).all (λ(x,y)=>Instr.sameBits n x y)=true
 | [],vs,us,_,h,k=>by have:=h.pS;subst this;have:=k.pS;subst this;exact⟨rfl,λn=>by simp⟩
 | x::xs,vs,us,hf,h,k=>by
  obtain⟨v,vs',rfl,h1,h2⟩:=h.dG;obtain⟨u,us',rfl,k1,k2⟩:=k.dG;simp only[cl,aa] at hf;obtain⟨a,b⟩:=tM hf.1 h1 k1;obtain⟨c,d⟩:=BW xs vs' us' hf.2 h2 k2;exact⟨by rw[a,c],λn=>by simp only[List.zip_cons_cons,cl,b n,d n,Bool.and_self]⟩
def CD{k mE:AV}(h:stays k mE=true)(hv:V σ k v)(hu:V σ mE u):(Instr.keyThatStays u v).run P w=.ok v w:=by
 simp only[stays,aa] at h;have:=N2 _ _ _ h.2;subst this
 have hs:Instr.sameBits 10000 u v=true:=by
  have hk:=h.1
  cases k with
  | agg cs=>
   obtain⟨vs,rfl,hvs⟩:=hv.oB;obtain⟨us,rfl,hus⟩:=hu.oB;obtain⟨e,hall⟩:=BW cs us.toList vs.toList hk hus hvs
   have hsz:us.size=vs.size:=by have:=rc ct e;simpa using this
   simp only[Instr.sameBits,hsz,beq_self_eq_true,Bool.true_and];exact hall 9999
  | bool _=>exact(tM rfl hu hv).2 _
  | int _ _=>exact(tM rfl hu hv).2 _
  | str _=>exact(tM rfl hu hv).2 _
  | _=>simp[DW,mQ] at hk
 simp[Instr.keyThatStays,hs]
variable{op:BinOp}{r:AV}
def NM{a b:Int}(h:Db op a b=some r):∃v,(Op.intCmp op a b).run P w=.ok v w/\V σ r v:=by
 unfold Db at h;split at h
 all_goals first
  | (simp only[qr] at h;subst h;refine⟨_,rfl,?_⟩)
  | (simp at h;done)
 ·rw[tx];exact .bool _
 ·rw[tx];exact .bool _
 ·rw[gh]
  have e:(!decide (b<=a))=decide (a<b):=by by_cases h:b<=a<;>simp[h]<;>omega
  rw[e];exact .bool _
 ·rw[gh];exact .bool _
 ·rw[gh]
  have e:(!decide (a<=b))=decide (a>b):=by by_cases h:a<=b<;>simp[h]<;>omega
  rw[e];exact .bool _
 ·rw[gh];exact .bool _
def Kw{b:Int}(h:QQ b=false):b≠0:=by
 intro e;subst e;simp[QQ] at h
def N0(d:Nat)(t:TypeId)(y:AV):lG P d t .any y=none:=by
 cases d with
 | zero=>rfl
 | succ d=>unfold lG;split<;>simp_all
def N1(d:Nat)(t:TypeId)(x:AV):lG P d t x .any=none:=by
 cases d with
 | zero=>rfl
 | succ d=>unfold lG;split<;>simp_all
def yo(h:c8 P op t x y=some r):x≠.any/\y≠.any:=by
 constructor
 ·rintro rfl;unfold c8 at h;split at h
  case h_1=>simp_all
  case h_2=>simp_all
  case h_3=>simp_all
  case h_4=>split at h<;>simp[N0] at h<;>(cases hg:P.eqGuardType P.depth t<;>simp[hg] at h)
 ·rintro rfl;unfold c8 at h;split at h
  case h_1=>simp_all
  case h_2=>simp_all
  case h_3=>simp_all
  case h_4=>split at h<;>simp[N1] at h<;>(cases hg:P.eqGuardType P.depth t<;>simp[hg] at h)
def Nt(h:c8 P op t x y=some r)(hv:V σ x v)(hu:V σ y u):
 ∃z,(binOp op t v u).run P w=.ok z w/\V σ r z:=by
 have hany:=yo h;unfold c8 at h;split at h
 case h_1 k a k' b=>
  cases hv;cases hu;split at h
  case h_1=>
   obtain⟨h0,h⟩:=aH h;simp only[aa,gh,wp] at h0;simp only[qr] at h;subst h;refine⟨_,by simp only[binOp,Op.shift];rw[v6 i4];rfl,?_⟩;rw[iq];simp only[cd];exact .int _ _
  case h_2=>
   obtain⟨h0,h⟩:=aH h;simp only[aa,gh,wp] at h0;simp only[qr] at h;subst h;refine⟨_,by simp only[binOp,Op.shift];rw[v6 i4];rfl,?_⟩;simp only[cd];exact .int _ _
  case h_3 hn1 hn2=>
   obtain⟨hk,h2⟩:=aH h;clear h;have:=(xN _ _).1 hk;subst this;have h:=h2;clear h2;split at h
   ·simp only[qr] at h;subst h;exact⟨.int k (k.wrap (a+b)),by simp[binOp,Op.intArith],by rw[iq];exact .int _ _⟩
   ·simp only[qr] at h;subst h;exact⟨.int k (k.wrap (a-b)),by simp[binOp,Op.intArith],by rw[iq];exact .int _ _⟩
   ·simp only[qr] at h;subst h;exact⟨.int k (k.wrap (a*b)),by simp[binOp,Op.intArith],by rw[iq];exact .int _ _⟩
   ·cases hz:QQ b
    ·rw[hz,aA] at h;have:=Kw hz;simp only[qr] at h;subst h;exact⟨.int k (k.wrap (a.tdiv b)),by simp[binOp,Op.intDiv,this],by rw[iq];exact .int _ _⟩
    ·simp[hz] at h
   ·cases hz:QQ b
    ·rw[hz,aA] at h;have:=Kw hz;simp only[qr] at h;subst h;exact⟨.int k (a.tmod b),by simp[binOp,Op.intDiv,this],.int _ _⟩
    ·simp[hz] at h
   ·simp at h
   ·simp at h
   ·simp at h
   ·simp at h
   ·obtain⟨z,hz,hV⟩:=NM (P:=P) (σ:=σ) (w:=w) h;refine⟨z,?_,hV⟩;cases op<;>simp_all [binOp]
 case h_2 a b=>
  cases hv with
  | str h1=>cases hu with
   | str h2=>
    rename_i s1 s2;have e1:=rA h1 h2
    have e2:fF a b=Op.bytesLess s1.toList s2.toList:=by rw[<-h1,<-h2,ByteArray.toList_eq,ByteArray.toList_eq];exact oW _ _
    split at h
    ·obtain⟨h0,h9⟩:=aH h;have h0:=jq h0;simp only[qr] at h9;subst h9;refine⟨_,by simp only[binOp,Op.stringOp];rw[v6];rfl;rw[uA h1,uA h2];simp[IntKind.max,IntKind.signed,IntKind.bits];omega,?_⟩;refine .str ?_;rw[<-h1,<-h2];simp[ByteArray.data_append]
    all_goals first
     | (simp only[qr] at h;subst h;refine⟨_,rfl,?_⟩;simp only[e1,e2];exact .bool _)
     | simp at h
 case h_3=>simp at h
 case h_4=>
  have hne:(∀k a k' b,¬(v=.int k a/\u=.int k' b))/\(∀a b,¬(v=.string a/\u=.string b)):=by
   refine⟨?_,?_⟩
   ·rintro k a k' b ⟨rfl,rfl⟩
    cases hv with
    | any _=>exact hany.1 rfl
    | int=>cases hu with
     | any _=>exact hany.2 rfl
     | int=>
      simp_all
      rename_i hx;exact hx _ _ _ _ rfl rfl rfl rfl
   ·rintro a b ⟨rfl,rfl⟩
    cases hv with
    | any _=>exact hany.1 rfl
    | str=>cases hu with
     | any _=>exact hany.2 rfl
     | str=>simp_all
  have heq:∀b,lG P 8 t x y=some b->(Op.equal t v u).run P w=.ok b w:=λb hb=>Kh 9992 8 t x y v u b hb hv hu;split at h
  ·cases hg:P.eqGuardType P.depth t
   ·rw[hg,aA] at h
    cases he:lG P 8 t x y with
    | none=>simp[he] at h
    | some b=>
     simp only[he,m6,qr] at h;subst h;refine⟨.bool b,?_,.bool _⟩;have:=heq b he;simp only[lG] at he
     split at he<;>cases hv<;>cases hu<;>first
      | (simp only[binOp,ne,this,pp,m9];done)
      | (exact un ⟨rfl,rfl⟩ (hne.1 _ _ _ _))
      | (exact un ⟨rfl,rfl⟩ (hne.2 _ _))
      | (simp at he;done)
   ·simp[hg] at h
  ·cases hg:P.eqGuardType P.depth t
   ·rw[hg,aA] at h
    cases he:lG P 8 t x y with
    | none=>simp[he] at h
    | some b=>
     simp only[he,m6,qr] at h;subst h;refine⟨.bool (!b),?_,.bool _⟩;have:=heq b he;simp only[lG] at he
     split at he<;>cases hv<;>cases hu<;>first
      | (simp only[binOp,ne,this,pp,m9];done)
      | (exact un ⟨rfl,rfl⟩ (hne.1 _ _ _ _))
      | (exact un ⟨rfl,rfl⟩ (hne.2 _ _))
      | (simp at he;done)
   ·simp[hg] at h
  ·simp at h
def FB{X Y:Operand}(h:c8 P op t x y=some r)(hv:V σ x v)(hu:V σ y u):
 (eqGuard op t X Y v u).run P w=.ok () w:=by
 by_cases hop:op=.eql\/op=.neq
 ·have hx:v≠.nilIface:=by
   intro e;subst e
   cases hv with
   | any _=>exact(yo h).1 rfl
   | xk=>unfold c8 at h;split at h<;>simp_all
  have hg:∀a b,v=.agg a->u=.agg b->P.eqGuardType P.depth t=false:=by
   intro a b e1 e2;subst e1;subst e2;have hany:=yo h
   cases hv with
   | any hh=>exact un rfl (hh a)
   | agg=>
    cases hu with
    | any hh=>exact un rfl (hh b)
    | agg=>
     cases hg:P.eqGuardType P.depth t
     ·rfl
     ·unfold c8 at h
      rcases hop with rfl | rfl<;>simp[hg] at h
  unfold eqGuard
  rcases hop with rfl | rfl<;>simp only[bv,af,if_false]
  all_goals
   cases v<;>first
    | exact un rfl hx
    | (cases u<;>first
     | rfl
     | (simp[hg _ _ rfl rfl];done)
     | (simp;done))
 ·cases op<;>first
   | exact un (.inl rfl) hop
   | exact un (.inr rfl) hop
   | rfl
def RM{op:UnOp}(h:TG op x=some r)(hv:V σ x v):∃z,(Op.unary op v).run P w=.ok z w/\V σ r z:=by
 unfold TG at h;split at h
 ·cases hv;simp only[qr] at h;subst h;exact⟨_,rfl,by rw[iq];exact .int _ _⟩
 ·cases hv;simp only[qr] at h;subst h;exact⟨_,rfl,.bool _⟩
 ·simp at h
variable{s:TypeId}
def LA{d:TypeId}(h:lf P s d x=some r)(hv:V σ x v):∃z,(convert s d v).run P w=.ok z w/\V σ r z:=by
 unfold lf at h;split at h
 ·rename_i h1 h2;cases hv;simp only[qr] at h;subst h;rename_i k _ n;exact⟨.int k (k.wrap n),by simp[convert,aQ h1,aQ h2,Conv.intToInt],by rw[iq];exact .int _ _⟩
 ·rename_i h1 h2;simp only[qr] at h;subst h
  cases hv with
  | str hs=>exact⟨_,by simp[convert,aQ h1,aQ h2],.str hs⟩
 ·simp at h
def BY(off:Nat):∀(l:List Value) (k:Nat) (cells:Array Value),off+k+l.length<=cells.size->
 ((l.zipIdx k).foldl (λcs (p:Value×Nat)=>cs.setIfInBounds (off+p.2) p.1) cells).toList=cells.toList.take (off+k)++(l++cells.toList.drop (off+k+l.length))
 | [],k,cells,_=>by simp
 | v::l,k,cells,h=>by
  simp only[i7] at h;rw[List.zipIdx_cons,List.foldl_cons,BY off l (k+1) _ (by simp;omega)];apply List.ext_getElem?;intro j
  have hlen:(cells.setIfInBounds (off+k) v).toList.length=cells.size:=by simp
  rw[show off+(k+1)=(off+k)+1 by omega];have a1:=lJ (cells.setIfInBounds (off+k) v).toList l (off+k+1) (by rw[hlen];omega) j;rw[a1];have a2:=lJ cells.toList (v::l) (off+k) (by simp;omega) j;rw[a2];simp only[i7,Array.toList_setIfInBounds];by_cases h1:j=off+k
  ·subst h1;rw[v6 i4,ut i4,List.getElem?_set_self (by simp;omega)];simp
  ·rw[List.getElem?_set_ne i4];by_cases h2:off+k+1<=j/\j<off+k+1+l.length
   ·rw[ut h2,ut i4,show j-(off+k)=(j-(off+k+1))+1 by omega,List.getElem?_cons_succ]
   ·rw[v6 h2,v6 i4]
def PL(σ:Sg)(ps:List (Nat×AV))(qs:List (Nat×Value)):Prop:=ps.length=qs.length/\∀(i:Nat) (a:Nat×AV) (v:Nat×Value),ps[i]?=some a->qs[i]?=some v->a.1=v.1/\V σ a.2 v.2
def tH{σ:Sg}{place:Nat->Option (Nat×Nat)}:∀(parts:List (Nat×AV)) (parts':List (Nat×Value)) (cells:List AV) (cells':Array Value) (r:List AV),
 km place cells parts=some r->PL σ parts parts'->VL σ cells cells'.toList->
 ∃r':Array Value,Instr.fill place cells' parts'=some r'/\VL σ r r'.toList
 | [],parts',cells,cells',r,h,hp,hc=>by
  cases parts' with
  | nil=>simp[km] at h;subst h;exact⟨cells',rfl,hc⟩
  | cons x y=>have:=hp.1;simp at this
 | (i,a)::parts,parts',cells,cells',r,h,hp,hc=>by
  cases parts' with
  | nil=>have:=hp.1;simp at this
  | cons x parts'=>
   obtain⟨i',v⟩:=x;have h0:=hp.2 0 (i,a) (i',v) ge ge;simp only at h0;obtain⟨rfl,hV⟩:=h0;simp only[km] at h
   cases hpl:place i with
   | none=>simp[hpl] at h
   | some q=>
    obtain⟨off,size⟩:=q;simp only[hpl] at h;obtain⟨hc1,h9⟩:=aH h;simp only[Bool.and_eq_true] at hc1;have e1:=cS hc1.1;have e2:=jq hc1.2;have hvc:=hV.cells;have hl1:=hvc.1;have hl2:=hc.1
    have hsz:v.cells.size=size:=by simp at hl1;omega
    have hcs:cells'.size=cells.length:=by simp at hl2;omega
    have hst:(v.cells.zipIdx.foldl (λcs (c,j)=>cs.setIfInBounds (off+j) c) cells').toList=cells'.toList.take off++(v.cells.toList++cells'.toList.drop (off+v.cells.toList.length)):=by
     have:=BY off v.cells.toList 0 cells' (by simp;omega);rw[<-Array.foldl_toList,Array.toList_zipIdx];simpa using this
    obtain⟨r',hr',hV'⟩:=tH parts parts' _ (v.cells.zipIdx.foldl (λcs (c,j)=>cs.setIfInBounds (off+j) c) cells') r h9
     ⟨by have:=hp.1;simpa using this,λi a v x y=>hp.2 (i+1) a v (by simpa using x) (by simpa using y)⟩
     (by
      rw[hst];refine(hc.take off).append (hvc.append ?_)
      have:off+v.cells.toList.length=off+size:=by simp[hsz]
      rw[this]
      exact hc.drop _)
    refine⟨r',?_,hV'⟩;simp only[Instr.fill,hpl];rw[v6 (by simp;omega)];exact hr'
def vG{σ:Sg}{t:Tr AV}{ρ:Operand->Value}(hρ:∀x a,ev t x=some a->V σ a (ρ x)):∀(l:List (Nat×Operand)) (ps:List (Nat×AV)),lP t l=some ps->
 PL σ ps (l.map λ(i,x)=>(i,ρ x))
 | [],ps,h=>by simp[lP] at h;subst h;exact⟨rfl,λi a v x _=>by simp at x⟩
 | (k,x)::l,ps,h=>by
  simp only[lP,bN] at h
  cases h1:ev t x with
  | none=>simp[h1] at h
  | some a=>
   cases h2:l.mapM (λp=>(ev t p.2).map λv=>(p.1,v)) with
   | none=>simp[h1,h2] at h
   | some qs=>
    simp[h1,h2] at h;subst h;obtain⟨i1,i2⟩:=vG hρ l qs h2;refine⟨by simpa using i1,?_⟩;intro i a' v hx hy
    cases i with
    | zero=>simp at hx hy;subst hx;subst hy;exact⟨rfl,hρ x a h1⟩
    | succ i=>exact i2 i a' v (by simpa using hx) (by simpa using hy)
def rB{σ:Sg}{t:Tr AV}{ρ:Operand->Value}(hρ:∀x a,ev t x=some a->V σ a (ρ x)):∀(l:List Operand) (aS:List AV),A7 t l=some aS->VL σ aS (l.map ρ)
 | [],aS,h=>by simp[A7] at h;subst h;exact .nil
 | x::l,aS,h=>by
  simp only[A7,bN] at h
  cases h1:ev t x with
  | none=>simp[h1] at h
  | some a=>
   cases h2:l.mapM (ev t) with
   | none=>simp[h1,h2] at h
   | some bs=>simp[h1,h2] at h;subst h;exact .cons (hρ x a h1) (rB hρ l bs h2)
def sq{P:Program}{w:World}{α β:Type}{f:α->Sem β}{g:α->β}:∀(l:List α),(∀x∈l,(f x).run P w=.ok (g x) w)->(l.mapM f).run P w=.ok (l.map g) w
 | [],_=>by simp
 | x::l,h=>by
  rw[bN];simp only[ne,h x ge,pp,sq l (λy hy=>h y (by simp[hy])),m9,cb]
def Ah{β:Type}{f:α->Sem β}{g:α->β}(l:Array α)(h:∀x∈l.toList,(f x).run P w=.ok (g x) w):(l.mapM f).run P w=.ok (l.map g) w:=by
 have e:l.mapM f=Functor.map List.toArray (l.toList.mapM f):=by
  obtain⟨l⟩:=l;exact List.mapM_toArray
 rw[e,Sem.run_map,sq l.toList h];show Result.ok (l.toList.map g).toArray w=_;obtain⟨l⟩:=l;simp
variable{parts':Array (Nat×Value)}
def H6{parts:List (Nat×AV)}(h:va P t parts=some r)
 (hp:PL σ parts parts'.toList):
 ∃v,(Instr.build t parts').run P w=.ok v w/\V σ r v:=by
 unfold va at h
 cases hz:di P t with
 | none=>simp[hz] at h
 | some z=>
  simp only[hz,m7] at h;obtain⟨zv,hzr,hzV,_⟩:=iK (w:=w) (σ:=σ) hz;split at h
  ·rename_i fs hu;obtain⟨hall,h9⟩:=aH h
   cases hf:km (vH P fs) z.cells parts with
   | none=>simp[hf] at h9
   | some cs=>
    simp only[hf,m6,qr] at h9;subst h9;obtain⟨r',hr',hV⟩:=tH parts parts'.toList z.cells zv.cells cs hf hp hzV.cells
    have hsz:∀f∈fs.toList,(do pure (f.offset,<-sizeOf f.type):Sem (Nat×Nat)).run P w=.ok (f.offset,(cF P f.type).getD 0) w:=by
     intro f hf';have:=all_eq_true.1 hall f hf'
     cases hs:cF P f.type with
     | none=>simp[hs] at this
     | some n=>simp[bR hs]
    have hpl:(λi=>(fs.map λf=>(f.offset,(cF P f.type).getD 0))[i]?)=vH P fs:=by
     funext i;simp only[vH,Array.getElem?_map]
     cases hfi:fs[i]? with
     | none=>rfl
     | some f=>
      simp only[m6,m7]
      have hmem:f∈fs.toList:=by simpa using Array.mem_of_getElem? hfi
      have:=all_eq_true.1 hall f hmem
      cases hs:cF P f.type with
      | none=>simp[hs] at this
      | some n=>simp
    refine⟨.agg r',?_,.xU hV⟩;simp only[Instr.build,ne,hzr,pp,aQ hu,Ah fs hsz];simp only[hpl,hr',m9]
  ·rename_i n e hu
   cases hs:cF P e with
   | none=>simp[hs] at h
   | some s=>
    simp only[hs,m7] at h
    cases hf:km (λi=>some (i*s,s)) z.cells parts with
    | none=>simp[hf] at h
    | some cs=>
     simp only[hf,m6,qr] at h;subst h;obtain⟨r',hr',hV⟩:=tH parts parts'.toList z.cells zv.cells cs hf hp hzV.cells;refine⟨.agg r',?_,.xU hV⟩;simp only[Instr.build,ne,hzr,pp,aQ hu,bR hs,hr',m9]
  ·simp at h
def gj(z:List AV):∀n,(rep z n).length=n*z.length
 | 0=>by simp[rep]
 | n+1=>by simp[rep,gj z n,co];omega
def KM(z:List AV)(hz:0<z.length):∀(n i:Nat),i<n*z.length->(rep z n)[i]?=z[i%z.length]?
 | 0,i,h=>by simp at h
 | n+1,i,h=>by
  simp only[rep,ap];by_cases hi:i<z.length
  ·rw[ut hi,Nat.mod_eq_of_lt hi]
  ·rw[v6 hi,KM z hz n _ (by rw[co] at h;omega)];rw[Nat.mod_eq_sub_mod (a:=i) i4]
def DX{z:List AV}{zv:Array Value}(h:VL σ z zv.toList)(hz:0<z.length)(n:Nat):VL σ (rep z n) ((ca (n*z.length)).map λi=>zv[i%z.length]!).toList:=by
 refine⟨by simp[gj],?_⟩;intro i a v ha hv
 have hi:i<n*z.length:=by
  rcases aT i (n*z.length) with h | h
  ·exact h
  ·rw[ad (by rw[gj];omega)] at ha;simp at ha
 rw[KM z hz n i hi] at ha;simp only[Array.toList_map,Array.toList_range,bh,bt hi,m6,qr] at hv;obtain⟨u,hu,hV⟩:=h.get ha
 have:zv[i%z.length]?=some u:=by simpa using hu
 rw[<-hv];rw[Array.getElem!_eq_getD,Array.getD_eq_getD_getElem?,this];exact hV
variable{len:Nat}
def xc{s:Nat}{parts:List (Nat×AV)}(h:gR P t len parts=some (s,cs))
 (hp:PL σ parts parts'.toList):
 ∃(c:Array Value) (e:TypeId),(Instr.buildSlice t len parts').run P w=.ok (.slice (some ⟨w.heap.size,0,none⟩) len len) { w with heap:=w.heap.push (.cells c e (0,0)) }/\VL σ cs c.toList/\cs.length=len*s:=by
 unfold gR at h;split at h
 ·rename_i e hu
  cases hs:cF P e with
  | none=>simp[hs] at h
  | some s'=>
   cases hz:di P e with
   | none=>simp[hs,hz] at h
   | some z=>
    simp only[hs,hz,m7] at h;obtain⟨hc,h9⟩:=aH h;simp only[aa] at hc;obtain⟨hle,hlen,hpos⟩:=hc;have hle:=jq hle;have hlen:=cS hlen
    have hpos:s'≠0:=by intro e0;subst e0;simp at hpos
    cases hf:km (λi=>some (i*s',s')) (rep z.cells len) parts with
    | none=>simp[hf] at h9
    | some cs'=>
     simp only[hf,m6,qr,m8] at h9;obtain⟨rfl,rfl⟩:=h9;obtain⟨zv,hzr,hzV,_⟩:=iK (w:=w) (σ:=σ) hz
     have hzl:zv.cells.size=s':=by have:=hzV.cells.1;simp at this;omega
     have hrep:=DX hzV.cells i4 len;rw[hlen] at hrep;obtain⟨r',hr',hV⟩:=tH parts parts'.toList (rep z.cells len) ((ca (len*s')).map λi=>zv.cells[i%s']!) cs' hf hp hrep;refine⟨r',e,?_,hV,?_⟩
     ·simp only[Instr.buildSlice,ne,aQ hu,pp,bR hs];rw[v6 (by simpa using hle)];by_cases h0:len*s'=0
      ·simp only[h0,if_true,ne,m9,pp]
       have he:((ca 0).map λi=>(#[]:Array Value)[i%(#[]:Array Value).size]!)=((ca (len*s')).map λi=>zv.cells[i%s']!):=by rw[h0];simp
       rw[he,hr'];simp[newRow]
      ·simp only[h0,if_false,ne,hzr,pp,m9,hzl,hr'];simp[newRow]
     ·have:∀(ps:List (Nat×AV)) (a b:List AV),km (λi=>some (i*s',s')) a ps=some b->b.length=a.length:=by
       intro ps
       induction ps with
       | nil=>intro a b hb;simp[km] at hb;rw[hb]
       | cons p ps ih=>
        intro a b hb;obtain⟨i,v⟩:=p;simp only[km] at hb;obtain⟨hc,hb⟩:=aH hb;simp only[aa] at hc;have e1:=cS hc.1;have e2:=jq hc.2;rw[ih _ _ hb];simp;omega
      rw[this _ _ _ hf,gj,hlen]
 ·simp at h
def kM{n:Nat}(h:df x=some n)(hv:V σ x v):∃k,v=.int k (n:Int)/\(asIntOf v).run P w=.ok (k,(n:Int)) w:=by
 unfold df at h;split at h
 ·simp only[qr] at h;subst h;cases hv;exact⟨_,rfl,rfl⟩
 ·simp at h
def yI{f:Nat}(h:jr P s x f=some r)(hv:V σ x v):∃z,(Instr.fieldAt s v f).run P w=.ok z w/\V σ r z:=by
 unfold jr at h;split at h
 ·rename_i fs id off hu
  cases hf:fs[f]? with
  | none=>simp[hf] at h
  | some fd=>
   simp only[hf,m7] at h
   cases hs:cF P fd.type with
   | none=>simp[hs] at h
   | some n=>
    simp only[hs,m7] at h;cases hn:beq n 0
    ·rw[hn,aA] at h;simp only[qr] at h;subst h;have hn0:n≠0:=iw hn
     cases hv with
     | ptr hp=>
      refine⟨_,?_,.ptr (off:=off+fd.offset) hp⟩;simp only[Instr.fieldAt,ne,aQ hu,pp,hf,Instr.sureAddr,m9,fieldPlace,bR hs,hn0,if_false,gO,bc]
    ·simp[hn] at h
 ·simp at h
def Io{f:Nat}(h:vg P s x f=some r)(hv:V σ x v):∃z,(Instr.field s v f).run P w=.ok z w/\V σ r z:=by
 unfold vg at h;split at h
 ·rename_i fs cs hu
  cases hf:fs[f]? with
  | none=>simp[hf] at h
  | some fd=>
   simp only[hf,m7] at h;obtain⟨vs,rfl,hvs⟩:=hv.oB;obtain⟨z,hz,hV⟩:=jw (w:=w) hvs h;exact⟨z,by simp only[Instr.field,ne,aQ hu,pp,hf,asAgg,m9];exact hz,hV⟩
 ·simp at h
def yT{i:AV}(h:kF P t x i=some r)(hv:V σ x v)(hi:V σ i u):∃z,(Instr.indexAt t v u).run P w=.ok z w/\V σ r z:=by
 unfold kF at h
 cases hn:df i with
 | none=>simp[hn] at h
 | some n=>
  simp only[hn,m7] at h;obtain⟨k,rfl,hk⟩:=kM (P:=P) (w:=w) hn hi;split at h
  ·rename_i m e id off hu
   cases hs:cF P e with
   | none=>simp[hs] at h
   | some s=>
    simp only[hs,m7] at h;obtain⟨hlt,h9⟩:=aH h;have hlt:=fZ hlt;simp only[qr] at h9;subst h9
    cases hv with
    | ptr hp=>
     refine⟨_,?_,.ptr (off:=off+n*s) hp⟩;simp only[Instr.indexAt,ne,hk,pp,aQ hu,Instr.sureAddr,m9]
     have:(0:Int)<=(n:Int)/\(n:Int)<(m:Int):=by omega
     cases hm:decide (m<=1)<;>simp[this,bR hs,gO,bc]
  ·rename_i e id off len es c hu
   cases hs:cF P e with
   | none=>simp[hs] at h
   | some s=>
    simp only[hs,m7] at h;obtain⟨hc,h9⟩:=aH h;simp only[aa] at hc;have hlt:=fZ hc.1;have:=cS hc.2;subst this;simp only[qr] at h9;subst h9
    cases hv with
    | slice hp hl hr hcap ha=>
     have ha:=ha.resolve_right i4;subst ha;refine⟨_,?_,.ptr (off:=off+n*s) hp⟩;simp only[Instr.indexAt,ne,hk,pp,aQ hu,m9]
     have:(0:Int)<=(n:Int)/\(n:Int)<(len:Int):=by omega
     cases hm:decide (len<=1)<;>simp[this,bR hs,gO,bc]
  ·simp at h
def Ix{i:AV}(h:vp P t x i=some r)(hv:V σ x v)(hi:V σ i u):∃z,(Instr.index t v u).run P w=.ok z w/\V σ r z:=by
 unfold vp at h
 cases hn:df i with
 | none=>simp[hn] at h
 | some n=>
  simp only[hn,m7] at h;obtain⟨k,rfl,hk⟩:=kM (P:=P) (w:=w) hn hi;split at h
  ·rename_i m e cs hu
   cases hs:cF P e with
   | none=>simp[hs] at h
   | some s=>
    simp only[hs,m7] at h;obtain⟨hlt,h9⟩:=aH h;have hlt:=fZ hlt;obtain⟨vs,rfl,hvs⟩:=hv.oB;obtain⟨z,hz,hV⟩:=jw (w:=w) hvs h9;refine⟨z,?_,hV⟩
    have:(0:Int)<=(n:Int)/\(n:Int)<(m:Int):=by omega
    simp only[Instr.index,ne,hk,pp,aQ hu,this,and_self,if_true,bR hs,ba,hz]
  ·rename_i s hu
   cases hb:s[n]? with
   | none=>simp[hb] at h
   | some b=>
    simp only[hb,m6,qr] at h;subst h
    cases hv with
    | @str _ bs hs=>
     rw[<-hs,bh] at hb
     cases hb':bs.data.toList[n]? with
     | none=>simp[hb'] at hb
     | some c=>
      simp only[hb',m6,qr] at hb;subst hb;refine⟨.int .u8 c.toNat,?_,.int _ _⟩
      have hlt:n<bs.size:=by
       rcases aT n bs.data.toList.length with h | h
       ·simpa using h
       ·simp[ad h] at hb'
      have hg:bs[n]?=some c:=by
       rw[getElem?_pos bs n hlt]
       have:bs.data.toList[n]?=some bs.data[n]:=by simp
       rw[this] at hb';exact hb'
      simp only[Instr.index,ne,hk,pp,aQ hu];rw[ut i4,ba,hg];rfl
  ·simp at h
def VO(σ:Sg)(x:Option AV)(v:Option Value):Prop:=match x,v with
 | none,none=>True
 | some x,some v=>V σ x v
 | _,_=>False
def eK{n y:Nat}(h:df x=some n)(hv:V σ x v)(hle:n<=y)(code:BoundsCode):(Instr.sliceBound v y code).run P w=.ok n w:=by
 obtain⟨k,rfl,hk⟩:=kM (P:=P) (w:=w) h hv;simp only[Instr.sliceBound,ne,hk,pp];rw[ut i4];simp
def U8(isS:Bool)(len c:Nat)(hi:Option Value):Sem Nat:=match hi with
 | some v=>Instr.sliceBound v c (if isS then .sliceAcap else .sliceAlen)
 | none=>pure len
def UQ(h:Nat)(lo:Option Value):Sem Nat:=match lo with
 | some v=>Instr.sliceBound v h .sliceB
 | none=>pure 0
def An(isS:Bool)(len c:Nat)(lo hi:Option Value):
 (Instr.sliceBounds isS len c lo hi none).run P w=((U8 isS len c hi).run P w).andThen λh w1=>((UQ h lo).run P w1).andThen λl w2=>.ok (l,h,c) w2:=by
 cases hi<;>cases lo<;>simp[Instr.sliceBounds,U8,UQ]
def pF{c:Nat}{cap:Option Nat}{lo hi mx:Option AV}{lo' hi' mx':Option Value}{l h:Nat}{m:Option Nat}(isS:Bool)
 (hb:cO len cap lo hi mx=some (l,h,m)) (hlen:len<=c) (hcap:∀x,cap=some x->x=c) (h1:VO σ lo lo') (h2:VO σ hi hi') (h3:VO σ mx mx'):
 ∃m',(Instr.sliceBounds isS len c lo' hi' mx').run P w=.ok (l,h,m') w/\l<=h/\h<=m'/\m'<=c/\(∀x,m=some x->x=m'):=by
 have fitsle:∀n,qm len cap n=true->n<=c:=by
  intro n hn;simp only[qm,b7] at hn
  rcases hn with hn | hn
  ·have:=jq hn;omega
  ·cases cap with
   | none=>simp at hn
   | some x=>have:=hcap x rfl;have:=jq hn;omega
 unfold cO at hb
 cases mx with
 | some v3=>
  cases mx' with
  | none=>exact h3.elim
  | some u3=>
   simp only at hb
   cases hm:df v3 with
   | none=>simp[hm] at hb
   | some m0=>
    simp only[hm,m7] at hb;obtain⟨hf,hb⟩:=aH hb;have hmc:=fitsle _ hf
    cases hi with
    | none=>simp at hb
    | some v2=>
     cases hi' with
     | none=>exact h2.elim
     | some u2=>
      simp only at hb
      cases hh:df v2 with
      | none=>simp[hh] at hb
      | some h0=>
       simp only[hh,m7] at hb;obtain⟨hhm,hb⟩:=aH hb;have hhm:=jq hhm
       cases lo with
       | none=>
        cases lo' with
        | some _=>exact h1.elim
        | none=>
         simp only[qr,m8] at hb;obtain⟨rfl,rfl,rfl⟩:=hb;refine⟨m0,?_,by omega,hhm,hmc,λx hx=>by simpa using hx.symm⟩;simp only[Instr.sliceBounds,ne,eK hm h3 hmc,pp,eK hh h2 hhm,m9]
       | some v1=>
        cases lo' with
        | none=>exact h1.elim
        | some u1=>
         simp only at hb
         cases hl:df v1 with
         | none=>simp[hl] at hb
         | some l0=>
          simp only[hl,m7] at hb;obtain⟨hlh,hb⟩:=aH hb;have hlh:=jq hlh;simp only[qr,m8] at hb;obtain⟨rfl,rfl,rfl⟩:=hb;refine⟨m0,?_,hlh,hhm,hmc,λx hx=>by simpa using hx.symm⟩;simp only[Instr.sliceBounds,ne,eK hm h3 hmc,pp,eK hh h2 hhm,eK hl h1 hlh,m9]
 | none=>
  cases mx' with
  | some _=>exact h3.elim
  | none=>
   simp only at hb
   have hh:∃h0,oP len cap hi=some h0/\h0<=c/\
    (U8 isS len c hi').run P w=.ok h0 w:=by
    cases hi with
    | none=>
     cases hi' with
     | some _=>exact h2.elim
     | none=>exact⟨len,rfl,hlen,rfl⟩
    | some v2=>
     cases hi' with
     | none=>exact h2.elim
     | some u2=>
      cases hn:df v2 with
      | none=>simp[oP,hn] at hb
      | some h0=>
       cases hf:qm len cap h0 with
       | false=>simp[oP,hn,hf] at hb
       | true=>exact⟨h0,by simp[oP,hn,hf],fitsle _ hf,eK hn h2 (fitsle _ hf) _⟩
   obtain⟨h0,e1,e2,e3⟩:=hh;simp only[e1,m7] at hb
   have e4:(Instr.sliceBounds isS len c lo' hi' none).run P w=((UQ h0 lo').run P w).andThen λl w2=>.ok (l,h0,c) w2:=by
    rw[An,e3,pp]
   cases lo with
   | none=>
    cases lo' with
    | some _=>exact h1.elim
    | none=>
     simp only[qr,m8] at hb;obtain⟨rfl,rfl,rfl⟩:=hb;exact⟨c,by rw[e4];rfl,by omega,e2,ac _,hcap⟩
   | some v1=>
    cases lo' with
    | none=>exact h1.elim
    | some u1=>
     simp only at hb
     cases hl:df v1 with
     | none=>simp[hl] at hb
     | some l0=>
      simp only[hl,m7] at hb;obtain⟨hlh,hb⟩:=aH hb;have hlh:=jq hlh;simp only[qr,m8] at hb;obtain⟨rfl,rfl,rfl⟩:=hb;refine⟨c,?_,hlh,e2,ac _,hcap⟩;rw[e4];simp only[UQ,eK hl h1 hlh,pp]
def yX{m:Option Nat}{l m' x:Nat}(hm:∀x,m=some x->x=m')(h:bD m l=some x):x=m'-l:=by
 cases m with
 | none=>simp[bD] at h
 | some y=>simp[bD] at h;rw[<-h,hm y rfl]
def I5(hr:HR σ h w){lo hi mx:Option AV}{lo' hi' mx':Option Value}(hs:vP P h t x lo hi mx=some r)
 (hv:V σ x v) (h1:VO σ lo lo') (h2:VO σ hi hi') (h3:VO σ mx mx'):∃z,(Instr.sliceAt t v lo' hi' mx').run P w=.ok z w/\V σ r z:=by
 unfold vP at hs;split at hs
 ·rename_i n e id off hu
  cases hsz:cF P e with
  | none=>simp[hsz] at hs
  | some s=>
   simp only[hsz,m7] at hs
   cases hb:cO n (some n) lo hi mx with
   | none=>simp[hb] at hs
   | some q=>
    obtain⟨l,hh,m⟩:=q;simp only[hb,m7] at hs;obtain⟨m',hrun,a1,a2,a3,a4⟩:=pF (P:=P) (w:=w) false hb (ac _) (λx hx=>by simpa using hx.symm) h1 h2 h3
    cases m with
    | none=>simp at hs
    | some m=>
     have:=a4 m rfl;subst this;simp only at hs;split at hs
     ·rename_i cs f ho;obtain⟨hle,hs⟩:=aH hs;have hle:=jq hle;simp only[qr] at hs;subst hs
      cases hv with
      | ptr hp=>
       obtain⟨q,c,e',hq,b1,b2,b3,b4⟩:=hr.cells ho;rw[hp] at hq;cases hq;refine⟨_,by simp only[Instr.sliceAt,ne,aQ hu,pp,Instr.sureAddr,m9,hrun,bR hsz];rfl,?_⟩
       have hmul:l*s+(m-l)*s=m*s:=by rw[<-b5];congr 1;omega
       have hmn:m*s<=n*s:=bi _ a3;refine .slice hp i4 i4 (λx hx=>by simpa using hx.symm) ?_;by_cases hml:m=l
       ·right;omega
       ·left;rw[v6 hml,gO,bc]
     ·simp at hs
 ·rename_i s hu
  cases mx with
  | some _=>simp at hs
  | none=>
   cases mx' with
   | some _=>exact h3.elim
   | none=>
    simp only at hs
    cases hb:cO s.length (some s.length) lo hi none with
    | none=>simp[hb] at hs
    | some q=>
     obtain⟨l,hh,m⟩:=q;simp only[hb,m6,qr] at hs;subst hs
     cases hv with
     | @str _ bs hbs=>
      have hsize:=uA hbs;rw[<-hsize] at hb;obtain⟨m',hrun,a1,a2,a3,a4⟩:=pF (P:=P) (w:=w) (mx':=none) false hb (ac _) (λx hx=>by simpa using hx.symm) h1 h2 trivial;refine⟨.string (bs.extract l hh),?_,.str ?_⟩
      ·simp only[Instr.sliceAt,ne,aQ hu,pp,Instr.slice,Option.isSome_none,af,if_false,hrun,m9]
      ·rw[<-hbs]
       have:(bs.extract l hh).data.toList=(bs.data.toList.drop l).take (hh-l):=by
        rw[ByteArray.data_extract];simp[List.extract_eq_take_drop]
       rw[this];simp
 ·rename_i e o len es cap hu
  cases hsz:cF P e with
  | none=>simp[hsz] at hs
  | some s=>
   simp only[hsz,m7] at hs
   cases hb:cO len cap lo hi mx with
   | none=>simp[hb] at hs
   | some q=>
    obtain⟨l,hh,m⟩:=q;simp only[hb,m7] at hs
    cases o with
    | none=>
     simp only[qr] at hs;subst hs
     cases hv with
     | ig hl0=>
      subst hl0;obtain⟨m',hrun,a1,a2,a3,a4⟩:=pF (P:=P) (w:=w) (c:=0) true hb (ac _) (λx hx=>by simpa using hx.symm) h1 h2 h3
      have:m'=0:=by omega
      subst this
      have:hh=0:=by omega
      subst this
      have:l=0:=by omega
      subst this;exact⟨_,by simp only[Instr.sliceAt,ne,aQ hu,pp,Instr.slice,hrun,bR hsz,m9,if_true],.ig rfl⟩
    | some q=>
     obtain⟨id,off⟩:=q;obtain⟨hes,hs9⟩:=aH hs;clear hs;have:=cS hes;subst this;simp only[qr] at hs9;subst hs9
     cases hv with
     | @slice _ _ _ _ _ a p c hp hl hroom hcap ha=>
      obtain⟨m',hrun,a1,a2,a3,a4⟩:=pF (P:=P) (w:=w) true hb hl hcap h1 h2 h3;refine⟨_,by simp only[Instr.sliceAt,ne,aQ hu,pp,Instr.slice,hrun,bR hsz,m9];rfl,?_⟩
      have hmul:l*s+(m'-l)*s=m'*s:=by rw[<-b5];congr 1;omega
      have hmn:m'*s<=c*s:=bi _ a3;by_cases hml:m'=l
      ·rw[ut hml];exact .slice hp i4 i4 (λx hx=>yX a4 hx) (.inr i4)
      ·rw[v6 hml];have ha:=ha.resolve_right i4;subst ha;exact .slice hp i4 i4 (λx hx=>yX a4 hx) (.inl (by show Addr.add _ _=_;rw[gO,bc]))
 ·simp at hs
def wrap_small(n:Nat)(h:n<=1000000000000):IntKind.i64.wrap (n:Int)=(n:Int):=by
 have h1:decide (L4 .i64<=(n:Int))=true:=wl (show(-9223372036854775808:Int)<=(n:Int) by omega);have h2:decide ((n:Int)<=LU .i64)=true:=wl (show(n:Int)<=(9223372036854775807:Int) by omega);rw[<-iq];unfold dO;rw[gh,gh,h1,h2];rfl
def zx{l c:AV}{l' c':Value}{n s m:Nat}(h:kK P t l c=some (n,s,m,cs))(hl:V σ l l')(hc:V σ c c'):
 ∃(a:Array Value) (e:TypeId),(Instr.makeSlice t l' c').run P w=.ok (.slice (some ⟨w.heap.size,0,none⟩) n m) { w with heap:=w.heap.push (.cells a e (0,0)) }/\VL σ cs a.toList/\n<=m/\cs.length=m*s:=by
 unfold kK at h;split at h
 ·rename_i e hu
  cases h1:df l with
  | none=>simp[h1] at h
  | some l0=>
   cases h2:df c with
   | none=>simp[h1,h2] at h
   | some c0=>
    cases hi:P.info? e with
    | none=>simp[h1,h2,hi] at h
    | some i=>
     cases hz:di P e with
     | none=>simp[h1,h2,hi,hz] at h
     | some z=>
      simp only[h1,h2,hi,hz,m7] at h;obtain⟨hcd,h⟩:=aH h;simp only[aa] at hcd;obtain⟨q1,q2,q3,q4,q5⟩:=hcd;have q1:=jq q1;have q2:=jq q2;have q3:=jq q3;have q4:=cS q4
      have q5:i.size≠0:=by intro e0;rw[e0] at q5;simp at q5
      simp only[qr,m8] at h;obtain⟨rfl,rfl,rfl,rfl⟩:=h;obtain⟨k1,rfl,hk1⟩:=kM (P:=P) (w:=w) h1 hl;obtain⟨k2,rfl,hk2⟩:=kM (P:=P) (w:=w) h2 hc;obtain⟨zv,hzr,hzV,i',hi',hzi⟩:=iK (w:=w) (σ:=σ) hz;rw[hi] at hi';cases hi'
      have hzl:zv.cells.size=i.size:=by have:=hzV.cells.1;simp at this;omega
      have hrep:=DX hzV.cells i4 c0;rw[q4] at hrep;have w1:IntKind.i64.wrap (l0:Int)=(l0:Int):=wrap_small _ i4;have w2:IntKind.i64.wrap (c0:Int)=(c0:Int):=wrap_small _ i4
      have hbc0:i.bytes*c0<=10000000000:=by have:=bw q3 q2;omega
      have hbc:(i.bytes:Int)*(c0:Int)<=10000000000:=by rw[<-b6];omega
      refine⟨_,e,?_,hrep,q1,by rw[gj,q4]⟩;simp only[Instr.makeSlice,ne,aQ hu,pp,asInt,hk1,hk2,m9,cX hi,w1,w2]
      have g1:¬((decide ((c0:Int)<0)||decide ((i.bytes:Int)*(c0:Int)>2^48))||decide ((l0:Int)<0)||decide ((l0:Int)>(c0:Int)))=true:=by
       simp only[b7,wp,not_or];refine⟨⟨⟨by omega,by omega⟩,by omega⟩,by omega⟩
      rw[v6 g1];simp only[ne,run_askRoom,pp,bR (show cF P e=some i.size by simp[cF,hi]),ba];by_cases h0:c0*i.size=0
      ·have hr0:ca 0=(#[]:Array Nat):=rfl;simp only[h0,if_true,ne,m9,pp,newRow,run_newObj];simp[hr0]
      ·simp only[h0,if_false,ne,hzr,pp,m9,newRow,run_newObj,hzl]
 ·simp at h
def mf:AO->Bool
 | .cells _ _=>true
 | .ro _=>true
 | _=>false
def cw{r:Nat}{o:Obj}(h:w.heap[r]?=some o)(hn:∀c e f,o≠.cells c e f):(getObj r).run P w=.ok o w:=by
 simp only[getObj,Sem.run,h]
 try (split<;>simp_all)
 try (cases o<;>simp_all [Sem.run])
def en{r:Nat}{o o':Obj}(h:w.heap[r]?=some o)(hn:∀c e f,o≠.cells c e f):(setObj r o').run P w=.ok () { w with heap:=w.heap.setIfInBounds r o' }:=by
 simp only[setObj,Sem.run,h]
 try (split<;>simp_all)
 try (cases o<;>simp_all [Sem.run])
def HR.jZ(hr:HR σ h w){id:Nat}{o':AO}{ob:Obj}(ho:h.aW.get id=some o)(hc:mf o=false)(hc':mf o'=false)(hp:σ id=some p)
 (hor:OR σ o' p (some ob)):HR σ (h.set id o') { w with heap:=w.heap.setIfInBounds p.b ob }/\Ext σ σ h (h.set id o') w { w with heap:=w.heap.setIfInBounds p.b ob }:=by
 have hlt:=hr.lt ho hp;refine hr.update (o':=o') ho hp ?_ rfl ?_ ?_ ?_ ge rfl rfl rfl (dR _ _).1 ?_ (λcs f e=>by subst e;simp[mf] at hc') (λcs e=>by subst e;simp[mf] at hc)
 ·intro j x hx;simp only[H.set,dz] at hx;split at hx
  ·rename_i e;cases hx;exact .inl ⟨e,rfl⟩
  ·rename_i hne;refine .inr ⟨hne,hx,?_⟩;intro q hq hb
   rcases hr.sep j id x o q p hne hx ho hq hp hb with⟨cs,cs',f,e1,e2⟩ | ⟨cs,cs',e1,e2⟩<;>(rw[e2] at hc;simp[mf] at hc)
 ·intro i cs f hi;simp only[H.set,dz] at hi;split at hi
  ·cases hi;simp[mf] at hc'
  ·exact hr.bX i cs f hi
 ·simp only[a9];simp only[if_true,hlt];exact hor
 ·intro b hb;simp only[a9];rw[v6 (λe=>hb e.symm)]
 ·intro j hj hjn;have:=dR h.low id;simp only[H.set] at hj ⊢;rw[bn _ _ i4]
def HR.map{σ:Sg}{h:H}{w:World}(hr:HR σ h w){id:Nat}{p:sZ}{es:List (AV×AV×Nat)}{c:Nat}(hm:h.mapOf id=some (es,c))(hp:σ id=some p):
 h.aW.get id=some (.map es c)/\∃es':Array MapEntry,w.heap[p.b]?=some (.map es' c)/\EL σ es es'.toList:=by
 unfold H.mapOf at hm;split at hm
 ·rename_i es0 c0 ho;simp only[qr,m8] at hm;obtain⟨rfl,rfl⟩:=hm;obtain⟨q,hq,es',h1,h2,h3⟩:=hr.obj id _ ho;rw[hp] at hq;cases hq;exact⟨ho,es',h1,by simpa using h2,λi e m he hm=>h3 i e m he (by simpa using hm)⟩
 ·simp at hm
def EL.get(h:EL σ es l){e:AV×AV×Nat}(he:es[i]?=some e):∃m,l[i]?=some m/\ER σ e m:=by
 have hi:i<es.length:=by
  rcases aT i es.length with h | h
  ·exact h
  ·simp[ad h] at he
 have hl:i<l.length:=h.1▸hi;exact⟨l[i],jp hl,h.2 i e _ he (jp hl)⟩
def EL.append{fs:List (AV×AV×Nat)}{k:List MapEntry}(h:EL σ es l)(g:EL σ fs k):EL σ (es++fs) (l++k):=by
 refine⟨by simp[h.1,g.1],?_⟩;intro i x y hx hy;rw[ap] at hx hy;have e:=h.1;by_cases hi:i<es.length
 ·rw[ut hi] at hx;rw[ut i4] at hy;exact h.2 i x y hx hy
 ·rw[v6 hi] at hx;rw[v6 i4,<-e] at hy;exact g.2 _ x y hx hy
def EL.one{e:AV×AV×Nat}{m:MapEntry}(h:ER σ e m):EL σ [e] [m]:=
 ⟨rfl,λi x y hx hy=>by
  cases i with
  | zero=>simp at hx hy;subst hx;subst hy;exact h
  | succ i=>simp at hx⟩
def ur(x:AV×AV×Nat):∀(es:List (AV×AV×Nat)) (i:Nat),(setAt x es i).length=es.length
 | [],i=>by simp[setAt]
 | e::es,0=>by simp[setAt]
 | e::es,i+1=>by simp[setAt,ur x es i]
def CB(x:AV×AV×Nat):∀(es:List (AV×AV×Nat)) (i j:Nat),i<es.length->(setAt x es i)[j]?=if j=i then some x else es[j]?
 | [],i,j,h=>by simp at h
 | e::es,0,j,h=>by cases j<;>simp[setAt]
 | e::es,i+1,j,h=>by
  cases j with
  | zero=>simp[setAt]
  | succ j=>simp only[setAt,ax,CB x es i j (by simpa using h)];by_cases hj:j=i<;>simp[hj]
def EL.set{l:Array MapEntry}(h:EL σ es l.toList){x:AV×AV×Nat}{f:MapEntry->MapEntry}(hi:i<es.length)(hf:∀m,l.toList[i]?=some m->ER σ x (f m)):
 EL σ (setAt x es i) (l.modify i f).toList:=by
 refine⟨by rw[ur];have:=h.1;simpa using this,?_⟩;intro j e m he hm;rw[CB x es i j hi] at he
 have hm':(l.modify i f)[j]?=some m:=by rw[<-Array.getElem?_toList];exact hm
 rw[bq] at hm';by_cases hj:j=i
 ·subst hj;rw[ut rfl] at he hm';simp only[qr] at he;subst he
  cases hl:l[j]? with
  | none=>simp[hl] at hm'
  | some m0=>
   simp only[hl,m6,qr] at hm';subst hm';exact hf m0 (by simpa using hl)
 ·rw[v6 hj] at he;rw[v6 (λe=>hj e.symm)] at hm';exact h.2 j e m he (by simpa using hm')
def lz{k:TypeId}(h:dw P t=some (k,e)):P.underlying t=some (.map k e):=by
 unfold dw at h;split at h
 ·rename_i h1;simp only[qr,m8] at h;obtain⟨rfl,rfl⟩:=h;exact h1
 ·simp at h
def Dz{k:AV}(h:xg P t k=true):∃d,P.underlying t=some d:=by
 simp only[xg,Fs] at h
 cases hu:P.underlying t with
 | none=>simp[hu] at h
 | some d=>exact⟨d,rfl⟩
def Gd(hr:HR σ h w){k:AV}{ok:Bool}(hl:rN P h t x k ok=some r)(hv:V σ x v)(hk:V σ k u):
 ∃z,(Instr.lookup t v u ok).run P w=.ok z w/\V σ r z:=by
 unfold rN at hl
 cases hm:dw P t with
 | none=>simp[hm] at hl
 | some q=>
  obtain⟨kt,et⟩:=q;simp only[hm,m7] at hl;obtain⟨hka,hl9⟩:=aH hl;clear hl;have hu:=lz hm;obtain⟨kd,hkd⟩:=Dz hka
  have main:∀(es:List (AV×AV×Nat)) (es':Array MapEntry),EL σ es es'.toList->
   (∀(r0:Option (Nat×Value)) (z:Value) (b:Bool),(Instr.findKey kt u es'.toList).run P w=.ok r0 w->
    (match r0 with | some q=>z=q.2/\b=true | none=>(zeroValue et).run P w=.ok z w/\b=false)->
    (Instr.lookup t v u ok).run P w=.ok (if ok then .tuple #[z,.bool b] else z) w)->
   ((
    gW P kt k es 0).bind λr=>
    ((
     match r with
     | some i=>(es[i]?).map λe=>(e.2.1,true)
     | none=>(di P et).map λz=>(z,false):Option (AV×Bool))).map λ(v,b)=>cond ok (AV.cx [v,.bool b]) v)=some r->
   ∃z,(Instr.lookup t v u ok).run P w=.ok z w/\V σ r z:=by
   intro es es' hel hget h
   cases hf:gW P kt k es 0 with
   | none=>simp[hf] at h
   | some r0=>
    simp only[hf,m7] at h;have hfind:=nK (w:=w) hkd hk hf hel
    have fin:∀(a:AV) (b:Bool) (z:Value),V σ a z->(cond ok (AV.cx [a,.bool b]) a)=r->V σ r (if ok then .tuple #[z,.bool b] else z):=by
     intro a b z hz e;subst e;cases ok
     ·exact hz
     ·exact .gi (.cons hz (.cons (.bool b) .nil))
    cases r0 with
    | some i=>
     cases he:es[i]? with
     | none=>simp[he] at h
     | some e=>
      simp only[he,m6,qr] at h;obtain⟨m,hm1,hm2⟩:=hel.get he;refine⟨_,hget _ m.val true hfind ?_,fin _ _ _ hm2.2.1 h⟩;simp[found,hm1]
    | none=>
     cases hz:di P et with
     | none=>simp[hz] at h
     | some z=>
      simp only[hz,m6,qr] at h;obtain⟨zv,hzr,hzV,_⟩:=iK (w:=w) (σ:=σ) hz;exact⟨_,hget _ zv false hfind ⟨hzr,rfl⟩,fin _ _ _ hzV h⟩
  split at hl9
  ·cases hv;refine main [] #[] ⟨rfl,λi e m he _=>by simp at he⟩ ?_ hl9;intro r0 z b hf hz;simp only[Instr.lookup,ne,aQ hu,pp,m9,jR hka hk,hf]
   cases r0 with
   | some q=>obtain⟨rfl,rfl⟩:=hz;rfl
   | none=>obtain⟨hz,rfl⟩:=hz;simp only[ne,hz,pp,m9]
  ·rename_i id
   cases hv with
   | map hp=>
    cases hmo:h.mapOf id with
    | none=>simp[hmo] at hl9
    | some q=>
     obtain⟨es,c⟩:=q;simp only[hmo,m6,m7] at hl9;obtain⟨_,es',h1,h2⟩:=hr.map hmo hp;refine main es es' h2 ?_ hl9;intro r0 z b hf hz;simp only[Instr.lookup,ne,aQ hu,pp,cw h1 ge,m9,jR hka hk,hf]
     cases r0 with
     | some q=>obtain⟨rfl,rfl⟩:=hz;rfl
     | none=>obtain⟨hz,rfl⟩:=hz;simp only[ne,hz,pp,m9]
  ·simp at hl9
def yP(hel:EL σ es l){e:AV×AV×Nat}(he:es[i]?=some e):∃m,l[i]?=some m/\ER σ e m/\found (some i) 0 l=some (i,m.val):=by
 obtain⟨m,h1,h2⟩:=hel.get he;exact⟨m,h1,h2,by simp[found,h1]⟩
def kJ{l:List α}{x:α}(h:l[i]?=some x):i<l.length:=by
 rcases aT i l.length with h' | h'
 ·exact h'
 ·simp[ad h'] at h
def uY{es':Array MapEntry}{c:Nat}(h:EL σ es es'.toList):OR σ (.map es c) p (some (.map es' c)):=
 ⟨es',rfl,by have:=h.1;simpa using this,λi e m he hm=>h.2 i e m he (by simpa using hm)⟩
def qS(hr:HR σ h w){k a:AV}{z:Value}(hl:kL P h t x k a=some h')(hv:V σ x v)(hk:V σ k u)(ha:V σ a z):
 ∃w',(Instr.mapUpdate t v u z).run P w=.ok () w'/\HR σ h' w'/\Ext σ σ h h' w w':=by
 unfold kL at hl
 cases hm:dw P t with
 | none=>simp[hm] at hl
 | some q=>
  obtain⟨kt,et⟩:=q;simp only[hm,m7] at hl;obtain⟨hka,hl9⟩:=aH hl;clear hl;have hu:=lz hm;obtain⟨kd,hkd⟩:=Dz hka;split at hl9
  ·rename_i id
   cases hv with
   | @map _ p hp=>
    cases hmo:h.mapOf id with
    | none=>simp[hmo] at hl9
    | some q=>
     obtain⟨es,c⟩:=q;simp only[hmo,m7] at hl9;obtain⟨ho,es',h1,h2⟩:=hr.map hmo hp
     cases hf:gW P kt k es 0 with
     | none=>simp[hf] at hl9
     | some r0=>
      simp only[hf,m7] at hl9;have hfind:=nK (w:=w) hkd hk hf h2
      cases r0 with
      | some i=>
       cases he:es[i]? with
       | none=>simp[he] at hl9
       | some e=>
        simp only[he,m7] at hl9;obtain⟨hst,hl9⟩:=aH hl9;simp only[qr] at hl9;subst hl9;obtain⟨m,hm1,hm2,hfo⟩:=yP h2 he
        have hm1':es'[i]?=some m:=by simpa using hm1
        have hst':=CD (P:=P) (w:=w) hst hk hm2.1
        have hel:EL σ (setAt (k,a,e.2.2) es i) (es'.modify i λm=>{ m with key:=u,val:=z }).toList:=
         h2.set (kJ he) (λm' hm'=>by rw[hm1] at hm';cases hm';exact⟨hk,ha,hm2.2.2⟩)
        obtain⟨g1,g2⟩:=hr.jZ ho rfl rfl hp (uY (c:=c) (p:=p) hel);refine⟨_,?_,g1,g2⟩;simp only[Instr.mapUpdate,ne,aQ hu,pp,cw h1 ge,jR hka hk,hfind,hfo,hm1',m6,ci,hst'];exact en h1 ge
      | none=>
       simp only[qr] at hl9;subst hl9
       have hel:EL σ (es++[(k,a,c)]) (es'.push { key:=u,val:=z,born:=c }).toList:=by
        rw[cc];exact h2.append (.one ⟨hk,ha,rfl⟩)
       obtain⟨g1,g2⟩:=hr.jZ ho rfl rfl hp (uY (c:=c+1) (p:=p) hel);refine⟨_,?_,g1,g2⟩;simp only[Instr.mapUpdate,ne,aQ hu,pp,cw h1 ge,jR hka hk,hfind,found];exact en h1 ge
  ·simp at hl9
def Bd(hr:HR σ h w){k:AV}(hl:vB P h t x k=some (r,h'))(hv:V σ x v)(hk:V σ k u):
 ∃z w',(Instr.mapEntry t v u).run P w=.ok z w'/\V σ r z/\HR σ h' w'/\Ext σ σ h h' w w':=by
 unfold vB at hl
 cases hm:dw P t with
 | none=>simp[hm] at hl
 | some q=>
  obtain⟨kt,et⟩:=q;simp only[hm,m7] at hl;obtain⟨hka,hl9⟩:=aH hl;clear hl;have hu:=lz hm;obtain⟨kd,hkd⟩:=Dz hka;split at hl9
  ·rename_i id
   cases hv with
   | @map _ p hp=>
    cases hmo:h.mapOf id with
    | none=>simp[hmo] at hl9
    | some q=>
     obtain⟨es,c⟩:=q;simp only[hmo,m7] at hl9;obtain⟨ho,es',h1,h2⟩:=hr.map hmo hp
     cases hf:gW P kt k es 0 with
     | none=>simp[hf] at hl9
     | some r0=>
      simp only[hf,m7] at hl9;have hfind:=nK (w:=w) hkd hk hf h2
      cases r0 with
      | some i=>
       cases he:es[i]? with
       | none=>simp[he] at hl9
       | some e=>
        simp only[he,m7] at hl9;obtain⟨hst,hl9⟩:=aH hl9;simp only[qr,m8] at hl9;obtain⟨rfl,rfl⟩:=hl9;obtain⟨m,hm1,hm2,hfo⟩:=yP h2 he
        have hm1':es'[i]?=some m:=by simpa using hm1
        have hst':=CD (P:=P) (w:=w) hst hk hm2.1
        have hel:EL σ (setAt (k,e.2.1,e.2.2) es i) (es'.modify i λm=>{ m with key:=u }).toList:=
         h2.set (kJ he) (λm' hm'=>by rw[hm1] at hm';cases hm';exact⟨hk,hm2.2.1,hm2.2.2⟩)
        obtain⟨g1,g2⟩:=hr.jZ ho rfl rfl hp (uY (c:=c) (p:=p) hel);refine⟨.tuple #[m.val,goInt m.born],_,?_,?_,g1,g2⟩
        ·simp only[Instr.mapEntry,ne,aQ hu,pp,cw h1 ge,jR hka hk,hfind,hfo,hm1',m6,ci,hst',en h1 ge,m9]
        ·rw[hm2.2.2];exact .gi (.cons hm2.2.1 (.cons (.int _ _) .nil))
      | none=>
       cases hz:di P et with
       | none=>simp[hz] at hl9
       | some z=>
        simp only[hz,m6,qr,m8] at hl9;obtain⟨rfl,rfl⟩:=hl9;obtain⟨zv,hzr,hzV,_⟩:=iK (w:=w) (σ:=σ) hz
        have hel:EL σ (es++[(k,z,c)]) (es'.push { key:=u,val:=zv,born:=c }).toList:=by
         rw[cc];exact h2.append (.one ⟨hk,hzV,rfl⟩)
        obtain⟨g1,g2⟩:=hr.jZ ho rfl rfl hp (uY (c:=c+1) (p:=p) hel);refine⟨.tuple #[zv,goInt c],_,?_,.gi (.cons hzV (.cons (.int _ _) .nil)),g1,g2⟩;simp only[Instr.mapEntry,ne,aQ hu,pp,cw h1 ge,jR hka hk,hfind,found,hzr,en h1 ge,m9]
  ·simp at hl9
def sH{b:Nat}:∀(es:List (AV×AV×Nat)) (k i:Nat),kC b es k=some i->k<=i/\i<k+es.length/\(∃e,es[i-k]?=some e/\e.2.2=b)/\∀j,j<i-k->∀e,es[j]?=some e->e.2.2≠b
 | [],k,i,h=>by simp[kC] at h
 | e::es,k,i,h=>by
  simp only[kC] at h;cases hb:beq e.2.2 b
  ·rw[hb,aA] at h;obtain⟨h1,h2,⟨x,h3,h4⟩,h5⟩:=sH es (k+1) i h;refine⟨by omega,by simp;omega,⟨x,?_,h4⟩,?_⟩
   ·rw[show i-k=(i-(k+1))+1 by omega,ax];exact h3
   ·intro j hj y hy
    cases j with
    | zero=>simp at hy;subst hy;exact iw hb
    | succ j=>exact h5 j i4 y (by simpa using hy)
  ·rw[hb,aq] at h;simp only[qr] at h;subst h;exact⟨ac _,by simp,⟨e,by simp,cS hb⟩,λj hj=>by omega⟩
def Ip{b:Nat}{l:Array MapEntry}(h:EL σ es l.toList)(hb:kC b es 0=some i):l.findIdx? (λe=>(e.born:Int)==(b:Int))=some i:=by
 obtain⟨h1,h2,⟨x,h3,h4⟩,h5⟩:=sH es 0 i hb;obtain⟨m,hm1,hm2⟩:=h.get (i:=i) (by simpa using h3)
 have hi:i<l.size:=by have:=kJ hm1;simpa using this
 have hm1':l[i]=m:=by
  have:l[i]?=some m:=by simpa using hm1
  rw[a0 hi] at this;simpa using this
 rw[Array.findIdx?_eq_some_iff_getElem];refine⟨hi,?_,?_⟩
 ·rw[hm1'];have:=hm2.2.2;simp;omega
 ·intro j hj
  have hjl:j<es.length:=by have:=h.1;simp at this;omega
  have:=h5 j i4 _ (jp hjl);have hr:=(h.2 j _ (l[j]' i4) (jp hjl) ge).2.2;simp;omega
def xe(hr:HR σ h w){s a:AV}{z:Value}(hl:qF h x s a=some h')(hv:V σ x v)(hs:V σ s u)(ha:V σ a z):
 ∃w',(Instr.entryStore t v u z).run P w=.ok () w'/\HR σ h' w'/\Ext σ σ h h' w w':=by
 unfold qF at hl;split at hl
 ·rename_i id
  cases hv with
  | @map _ p hp=>
   cases hmo:h.mapOf id with
   | none=>simp[hmo] at hl
   | some q=>
    obtain⟨es,c⟩:=q;simp only[hmo,m7] at hl;obtain⟨ho,es',h1,h2⟩:=hr.map hmo hp
    cases hn:df s with
    | none=>simp[hn] at hl
    | some b=>
     simp only[hn,m7] at hl;obtain⟨k,rfl,hk⟩:=kM (P:=P) (w:=w) hn hs
     cases hb:kC b es 0 with
     | none=>simp[hb] at hl
     | some i=>
      simp only[hb,m7] at hl
      cases he:es[i]? with
      | none=>simp[he] at hl
      | some e=>
       simp only[he,m6,qr] at hl;subst hl;obtain⟨m,hm1,hm2⟩:=h2.get he
       have hel:EL σ (setAt (e.1,a,e.2.2) es i) (es'.modify i λm=>{ m with val:=z }).toList:=
        h2.set (kJ he) (λm' hm'=>by rw[hm1] at hm';cases hm';exact⟨hm2.1,ha,hm2.2.2⟩)
       obtain⟨g1,g2⟩:=hr.jZ ho rfl rfl hp (uY (c:=c) (p:=p) hel);refine⟨_,?_,g1,g2⟩;simp only[Instr.entryStore,ne,m9,pp,cw h1 ge,asInt,hk,Ip h2 hb];exact en h1 ge
 ·simp at hl
def B0(n:Nat):∀(r c:Nat),c<=n+n/4+192->Builtin.growBy n r c<=n+n/4+192
 | 0,c,h=>by simpa [Builtin.growBy] using h
 | r+1,c,h=>by
  simp only[Builtin.growBy];split
  ·exact h
  ·exact B0 n r _ i4
def IN{n c:Nat}(h:c<n):Builtin.nextslicecap n c<=2*n+192:=by
 unfold Builtin.nextslicecap;split
 ·omega
 ·split
  ·omega
  ·have:=B0 n 4 c i4;omega
def nj(hr:HR σ h w){o:Option (Nat×Nat)}{n es s:Nat}{cap:Option Nat}(hc:cG h o n s=some cs)(hes:es=s\/n=0)(hn:n<=len)
 (hv:V σ (.slice o len es cap) v):∃vs,VL σ cs vs/\cs.length=n*s/\∀w',w'.heap=w.heap->(Builtin.firstCells s n v).run P w'=.ok vs.toArray w':=by
 unfold cG at hc
 cases o with
 | none=>
  obtain⟨h0,hc2⟩:=aH hc;clear hc;have:=cS h0;subst this;simp only[qr] at hc2;subst hc2;cases hv;exact⟨[],.nil,by simp,λw' _=>by simp[Builtin.firstCells]⟩
 | some q=>
  obtain⟨id,off⟩:=q;simp only at hc;cases h0:beq n 0
  ·rw[h0,aA] at hc;have hn0:=iw h0;have hes:=hes.resolve_right hn0;subst hes
   cases hv with
   | @slice _ _ _ _ _ a p c hp hl hroom hcap ha=>
    have ha:=ha.resolve_right i4;subst ha;obtain⟨vs,h1,h2,h3⟩:=hr.chunk hc hp;refine⟨vs,h1,h2,λw' hw'=>?_⟩
    have e:n*es=vs.length:=by rw[<-h1.1];exact h2.symm
    simp only[Builtin.firstCells];rw[e]
    exact oC λj v hv=>by rw[<-h3 j v hv];simp[World.cell?,hw']
  ·rw[h0,aq] at hc;have:=cS h0;subst this;simp only[qr] at hc;subst hc
   cases hv with
   | slice hp hl hroom hcap ha=>exact⟨[],.nil,by simp,λw' _=>by simp[Builtin.firstCells,loadCells,loadCellsFrom]⟩
def App(P:Program)(w:World)(e s:Nat)(xt:TypeId)(u:Value)(n:Nat)(vs:List Value):Prop:=
 ∃d,P.underlying xt=some d/\
  (
   ((∃k,d=.int k)/\∃k,u=.int k (n:Int)/\∃z,(zeroValue e).run P w=.ok z w/\(n*s≠0->Builtin.zeroCells z.cells n=vs.toArray)/\(n*s=0->vs=[]))\/
   ((∀k,d≠.int k)/\(Builtin.lenOf u).run P w=.ok n w/\(Builtin.firstCells s n u).run P w=.ok vs.toArray w))
variable{xt:TypeId}
def A2(hr:HR σ h w){e s:Nat}{n:Nat}(hs0:s≠0)
 (ha:my P h e s xt y=some (n,cs)) (hu:V σ y u):∃vs,VL σ cs vs/\cs.length=n*s/\∀w',w'.heap=w.heap->App P w' e s xt u n vs:=by
 unfold my at ha;split at ha
 ·rename_i k hd
  cases hn:df y with
  | none=>simp[hn] at ha
  | some n0=>
   cases hz:di P e with
   | none=>simp[hn,hz] at ha
   | some z=>
    simp only[hn,hz,m7] at ha;obtain⟨hc,ha2⟩:=aH ha;clear ha;simp only[aa] at hc;have hzl:=cS hc.2;simp only[qr,m8] at ha2;obtain⟨rfl,rfl⟩:=ha2;obtain⟨zv,_,hzV,iz,hiz,hizz⟩:=iK (w:=w) (σ:=σ) hz;obtain⟨k1,rfl,hk1⟩:=kM (P:=P) (w:=w) hn hu
    have hzs:zv.cells.size=s:=by have:=hzV.cells.1;simp at this;omega
    have hrep:=DX hzV.cells i4 n0;rw[hzl] at hrep;refine⟨_,hrep,by rw[gj,hzl],λw' _=>⟨_,hd,.inl ⟨⟨k,rfl⟩,k1,rfl,zv,by simp[zeroValue,cX hiz,hizz],?_,?_⟩⟩⟩
    ·intro _;simp only[Builtin.zeroCells,hzs]
    ·intro h0;rw[h0];simp
 ·rename_i d hnd hd;split at ha
  ·rename_i o m es cp;obtain⟨hc,ha2⟩:=aH ha;clear ha
   cases hsc:cG h o m s with
   | none=>simp[hsc] at ha2
   | some cs0=>
    simp only[hsc,m6,qr,m8] at ha2;obtain⟨rfl,rfl⟩:=ha2
    have hes:es=s\/m=0:=by
     simp only[b7] at hc
     rcases hc with hc | hc
     ·exact .inl (cS hc)
     ·exact .inr (cS hc)
    obtain⟨vs,h1,h2,h3⟩:=nj (P:=P) hr hsc hes (ac _) hu;refine⟨vs,h1,h2,λw' hw'=>⟨d,hd,.inr ⟨λk e=>hnd k e,?_,h3 w' hw'⟩⟩⟩
    cases hu with
    | ig h0=>subst h0;rfl
    | slice hp hl hroom hcap ha=>rfl
  ·simp at ha
 ·simp at ha
variable{ats:Array TypeId}{st:TypeId}{args:Array Value}
def ji{T:TypeId}{base:Option Addr}{c n:Nat}{i:TypeInfo}
 (h0:ats[0]?=some st) (h1:ats[1]?=some xt) (h2:args[0]?=some (.slice base len c)) (h3:args[1]?=some u) (hst:P.underlying st=some (.slice e)) (hi:P.info? e=some i) (his:i.size=s) (hib:i.bytes<=10000)
 (happ:App P w e s xt u n vs) (hn:n<=1000000) (hle:len+n<=c):
 (Builtin.append_ ats T args).run P w=(match base with
  | some a=>((storeCells (a.add (len*s)) vs).run P w).andThen λ_ w'=>.ok (.slice base (len+n) c) w'
  | none=>.ok (.slice base (len+n) c) w):=by
 have hsz:(sizeOf e).run P w=.ok s w:=by simp[sizeOf,cX hi,his]
 obtain⟨d,hd,happ⟩:=happ
 rcases happ with⟨⟨k,rfl⟩,k2,rfl,z,hz,hz1,hz2⟩ | ⟨hk,hl,hf⟩
 ·have hw:=wrap_small n i4
  have hb:¬((n:Int)*(i.bytes:Int)>2^48):=by
   have:n*i.bytes<=1000000*10000:=bw hn hib;rw[<-b6]
   have e2:((2:Int)^48)=281474976710656:=by decide
   rw[e2];omega
  have hneg:¬((n:Int)<0):=by omega
  simp only[Builtin.append_,h0,h1,h2,h3,ne,aQ hst,pp,hsz,aQ hd,m9,if_true,asInt,asIntOf,hw,hneg,if_false,cX hi,hb,ba,hle,bv,af];by_cases hz0:n*s=0
  ·simp only[hz0,if_true,m9,pp,hz2 hz0];cases base<;>simp[storeCells]
  ·simp only[hz0,if_false,ne,hz,pp,m9,hz1 hz0];cases base<;>simp
 ·simp only[Builtin.append_,h0,h1,h2,h3,ne,aQ hst,pp,hsz,aQ hd,m9,af,if_false,hl,hle,if_true,ch,hf];cases base<;>simp
def E9{T:TypeId}{base:Option Addr}{z:Value}{c n:Nat}{mE:List Value}{i:TypeInfo}
 (h0:ats[0]?=some st) (h1:ats[1]?=some xt) (h2:args[0]?=some (.slice base len c)) (h3:args[1]?=some u) (hst:P.underlying st=some (.slice e)) (hi:P.info? e=some i) (his:i.size=s) (hib:i.bytes<=10000)
 (happ:∀w',w'.heap=w.heap->App P w' e s xt u n vs) (hn:n<=1000000) (hln:len<=1000000) (hgt:c<len+n) (hzv:∀w',(zeroValue e).run P w'=.ok z w') (hold:∀w',w'.heap=w.heap->(Builtin.firstCells s len (.slice base len c)).run P w'=.ok mE.toArray w'):
 ∃(nc:Nat) (w1:World) (rest:Array Value),len+n<=nc/\w1.heap=w.heap/\w1.os=w.os/\w1.tape=w.tape/\w1.output=w.output/\
  (Builtin.append_ ats T args).run P w=.ok (.slice (some ⟨w.heap.size,0,none⟩) (len+n) nc) { w1 with heap:=w.heap.push (.cells (mE.toArray++vs.toArray++rest) e (0,0)) }/\rest.size=(nc-(len+n))*z.cells.size:=by
 have hsz:∀w',(sizeOf e).run P w'=.ok s w':=λw'=>by simp[sizeOf,cX hi,his]
 have hnle:¬(len+n<=c):=by omega
 have hcap:=IN hgt
 have hroom:¬(Builtin.nextslicecap (len+n) c*i.bytes>2^48):=by
  have:Builtin.nextslicecap (len+n) c*i.bytes<=5000000*10000:=bw i4 hib;omega
 let w1:World:={ w with drawn:=w.drawn+1 }
 let nc:=(len+n)+(w.tape w.drawn (.appendCap (len+n) c e))%(2^63-(len+n))
 refine⟨nc,w1,Builtin.zeroCells z.cells (nc-(len+n)),Nat.le_add_right _ _,rfl,rfl,rfl,rfl,?_,by simp[Builtin.zeroCells]⟩;have hforced:(Question.appendCap (len+n) c e).forced=false:=rfl;have hcut:(Question.appendCap (len+n) c e).cut (w.tape w.drawn (.appendCap (len+n) c e))=nc:=rfl;have happ0:=happ w rfl;have happ1:=happ w1 rfl;have hold1:=hold w1 rfl;obtain⟨d,hd,happ0⟩:=happ0;obtain⟨d',hd',happ1⟩:=happ1;rw[hd] at hd';cases hd'
 have hint:∀(q:Bool),¬(((len+n:Nat):Int)>IntKind.i64.max/\q=true):=by
  intro q hq
  have e2:IntKind.i64.max=9223372036854775807:=by decide
  rw[e2] at hq;omega
 have hint':∀(q:Prop),¬(((len+n:Nat):Int)>IntKind.i64.max/\q):=by
  intro q hq
  have e2:IntKind.i64.max=9223372036854775807:=by decide
  rw[e2] at hq;omega
 rcases happ0 with⟨⟨k,rfl⟩,k2,rfl,z',hz,hz1,hz2⟩ | ⟨hk,hl,hf⟩
 ·have hzz:z'=z:=by have:=hzv w;rw[hz] at this;simpa using this
  subst hzz;have hw:=wrap_small n i4
  have hb:¬((n:Int)*(i.bytes:Int)>2^48):=by
   have:n*i.bytes<=1000000*10000:=bw hn hib;rw[<-b6]
   have e2:((2:Int)^48)=281474976710656:=by decide
   rw[e2];omega
  have hneg:¬((n:Int)<0):=by omega
  simp only[Builtin.append_,h0,h1,h2,h3,ne,aQ hst,pp,hsz,aQ hd,m9,if_true,asInt,asIntOf,hw,hneg,if_false,cX hi,hb,ba,hnle,bv,af,hint',hroom,run_choose,hforced,hcut,run_askRoom];show _=_;rw[hold1];simp only[pp];by_cases hz0:n*s=0
  ·simp only[hz0,if_true,m9,pp,hz2 hz0,hzv,newRow,ne,run_newObj];rfl
  ·simp only[hz0,if_false,ne,hzv,pp,m9,hz1 hz0,newRow,run_newObj];rfl
 ·rcases happ1 with⟨⟨k,rfl⟩,_⟩ | ⟨_,_,hf1⟩
  ·exact un rfl (hk k)
  simp only[Builtin.append_,h0,h1,h2,h3,ne,aQ hst,pp,hsz,aQ hd,m9,af,if_false,hl,hnle,if_true,ch,cX hi,hint',hroom,run_choose,hforced,hcut,run_askRoom];show _=_;rw[hold1];simp only[pp];rw[hf1];simp only[pp,ne,hzv,m9,newRow,run_newObj];rfl
def HR.fork(hr:HR σ h w){id bX k:Nat}{bs cs':List AV}{q:sZ}(ho:h.aW.get id=some (.cells bs bX))(hp:σ id=some p)
 (hq:q.b=p.b\/w.heap.size<=q.b) (h1:OR σ (.cells (bs.take k) bX) p w'.heap[p.b]?) (h2:OR (up σ h.next q) (.cells cs' bX) q w'.heap[q.b]?)
 (hw:∀b,b<w.heap.size->b≠p.b->w'.heap[b]?=w.heap[b]?) (hsz:w.heap.size<=w'.heap.size) (e1:w'.os=w.os) (e2:w'.tape=w.tape) (e3:w'.output=w.output):
 HR (up σ h.next q) (h.ep id bX (bs.take k) cs') w'/\Ext σ (up σ h.next q) h (h.ep id bX (bs.take k) cs') w w':=by
 obtain⟨a1,a2,a3,a4,a5,a6,a7,a8⟩:=nG hr ho;have hnone:σ h.next=none:=hr.fresh _ (ac _);have hle:=pq (p:=q) hnone;have hidn:=hr.Wh ho
 have hget:∀j x,(h.ep id bX (bs.take k) cs').aW.get j=some x->
  (j=h.next/\x=.cells cs' bX)\/(j=id/\x=.cells (bs.take k) bX)\/(j≠id/\j≠h.next/\h.aW.get j=some x/\(∀q,σ j=some q->q.b≠p.b)/\∀cs f,x=.cells cs f->f≠bX):=by
  intro j x hx;simp only[H.ep] at hx;rw[dz,a4] at hx;split at hx
  ·rename_i e;cases hx;exact .inl ⟨e,rfl⟩
  ·rename_i hn;rw[dz] at hx;split at hx
   ·rename_i e;cases hx;exact .inr (.inl ⟨e,rfl⟩)
   ·rename_i hne;have hx':=a2 j x hx;refine .inr (.inr ⟨hne,hn,hx',?_,?_⟩)
    ·intro q' hq' hb;obtain⟨cs1,f1⟩:=(hr.sep j id x _ q' p hne hx' ho hq' hp hb).left;subst f1;exact hne (a3 j cs1 hx)
    ·intro cs f e hf;subst e;subst hf;exact hne (a3 j cs hx)
 have hup:∀j,j≠h.next->∀r,up σ h.next q j=some r->σ j=some r:=by
  intro j hj r hr';simpa [up,hj] using hr'
 refine⟨⟨?_,?_,?_,?_,?_⟩,⟨hle,by simp only[H.ep];omega,hsz,e1,e2,e3,?_,?_,?_,?_,?_,?_⟩⟩
 ·intro j x hx
  rcases hget j x hx with⟨rfl,rfl⟩ | ⟨rfl,rfl⟩ | ⟨c1,c2,c3,c4,_⟩
  ·exact⟨q,ew _ _ _,h2⟩
  ·exact⟨p,hle _ _ hp,h1.mono hle⟩
  ·obtain⟨r,r1,r2⟩:=hr.obj j x c3;exact⟨r,hle _ _ r1,by rw[hw _ (hr.lt c3 r1) (c4 r r1)];exact r2.mono hle⟩
 ·intro j hj;simp only[H.ep] at hj
  have:j≠h.next:=by omega
  simp[up,this,hr.fresh j i4]
 ·intro i j x y r s hij hx hy h3 h4 hb
  rcases hget i x hx with⟨rfl,rfl⟩ | ⟨rfl,rfl⟩ | ⟨c1,c2,c3,c4,_⟩
  ·rw[ew] at h3;cases h3
   rcases hget j y hy with⟨rfl,rfl⟩ | ⟨rfl,rfl⟩ | ⟨d1,d2,d3,d4,_⟩
   ·exact un rfl hij
   ·exact .inl ⟨_,_,_,rfl,rfl⟩
   ·have h4':=hup j d2 s h4;have:=hr.lt d3 h4';have:=d4 s h4'
    rcases hq with hq | hq<;>omega
  ·have h3':=hup i i4 r h3;rw[hp] at h3';cases h3'
   rcases hget j y hy with⟨rfl,rfl⟩ | ⟨rfl,rfl⟩ | ⟨d1,d2,d3,d4,_⟩
   ·exact .inl ⟨_,_,_,rfl,rfl⟩
   ·exact un rfl hij
   ·exact un hb.symm (d4 s (hup j d2 s h4))
  ·have h3':=hup i c2 r h3
   rcases hget j y hy with⟨rfl,rfl⟩ | ⟨rfl,rfl⟩ | ⟨d1,d2,d3,d4,_⟩
   ·rw[ew] at h4;cases h4;have:=hr.lt c3 h3';have:=c4 r h3'
    rcases hq with hq | hq<;>omega
   ·have h4':=hup j i4 s h4;rw[hp] at h4';cases h4';exact un hb (c4 r h3')
   ·exact hr.sep i j x y r s hij c3 d3 h3' (hup j d2 s h4) hb
 ·intro i cs f hi;have hfn:(h.ep id bX (bs.take k) cs').next=(h.alone id bX).next+1:=rfl;have hff:(h.ep id bX (bs.take k) cs').dC=(h.alone id bX).dC.put bX (some (id,(h.alone id bX).next)):=rfl;rw[hfn,hff]
  rcases hget i _ hi with⟨rfl,hx⟩ | ⟨rfl,hx⟩ | ⟨c1,c2,c3,c4,c5⟩
  ·cases hx;have:=(hr.bX id _ _ ho).1;exact⟨by omega,_,_,cW _ _ _,.inr a4.symm⟩
  ·cases hx;have:=(hr.bX i _ _ ho).1;exact⟨by omega,_,_,cW _ _ _,.inl rfl⟩
  ·obtain⟨b1,x,y,b2,b3⟩:=hr.bX i _ _ c3;have hne:=c5 cs f rfl;exact⟨by omega,x,y,by rw[bn _ _ hne,a6 f hne];exact b2,b3⟩
 ·have:=dR (h.alone id bX).low id;simp only[H.ep];omega
 ·intro j x r hx hr'
  rcases hget j x hx with⟨rfl,rfl⟩ | ⟨rfl,rfl⟩ | ⟨c1,c2,c3,c4,_⟩
  ·rw[ew] at hr';cases hr'
   rcases hq with hq | hq
   ·exact .inr ⟨id,_,p,ho,hp,hq.symm,λ_ cs e=>by cases e⟩
   ·exact .inl hq
  ·exact .inr ⟨j,_,r,ho,hup j i4 r hr',rfl,λ_ cs e=>by cases e⟩
  ·exact .inr ⟨j,x,r,c3,hup j c2 r hr',rfl,λh=>h⟩
 ·intro b hb hn;exact hw b hb λe=>hn id _ p ho (λcs e=>by cases e) hp e.symm
 ·exact ay (dR _ _).1 a7
 ·intro j hj hjn;simp only[H.ep] at hj ⊢;have:=dR (h.alone id bX).low id;rw[bn _ _ i4,bn _ _ i4];exact a8 j i4
 ·intro j hj hn;simp only[up];rw[v6 i4];exact hn
 ·intro j cs f hj
  rcases hget j _ hj with⟨rfl,hx⟩ | ⟨rfl,hx⟩ | ⟨c1,c2,c3,c4,c5⟩
  ·cases hx;exact .inr ⟨id,bs,ho⟩
  ·cases hx;exact .inr ⟨j,bs,ho⟩
  ·exact .inr ⟨j,cs,c3⟩
def Yields(P:Program)(σ:Sg)(h h':H)(w:World)(r:AV)(s:Sem Value):Prop:=
 ∃σ' z w',s.run P w=.ok z w'/\V σ' r z/\HR σ' h' w'/\Ext σ σ' h h' w w'
def wg(h:H)(cs:List AV):h.mX cs=(h.next,{ h.lay h.next (.cells cs h.next) with next:=h.next+1 }):=rfl
def HR.KE{w1:World}(hr:HR σ h w)(hv:VL σ aS vs)(hc:c.toList.take vs.length=vs)
 (e1:w1.os=w.os) (e2:w1.tape=w.tape) (e3:w1.output=w.output):
 HR (up σ h.next ⟨w.heap.size,0,c.size⟩) { h.lay h.next (.cells aS h.next) with next:=h.next+1 } { w1 with heap:=w.heap.push (.cells c e (0,0)) }/\
 Ext σ (up σ h.next ⟨w.heap.size,0,c.size⟩) h { h.lay h.next (.cells aS h.next) with next:=h.next+1 } w { w1 with heap:=w.heap.push (.cells c e (0,0)) }:=
 hr.new (λcs f hf=>by cases hf;rfl) (HY (hv.mono (pq (hr.fresh _ (ac _)))) hc) rfl e1 e2 e3
def E8(hr:HR σ h w){T:TypeId}(ha:tf P h st xt x y=some (r,h'))
 (h0:ats[0]?=some st) (h1:ats[1]?=some xt) (h2:args[0]?=some v) (h3:args[1]?=some u) (hv:V σ x v) (hu:V σ y u):Yields P σ h h' w r (Builtin.append_ ats T args):=by
 unfold tf at ha;split at ha
 ·rename_i e o len es cap hst
  cases hi:P.info? e with
  | none=>simp[hi] at ha
  | some i=>
   cases hz:di P e with
   | none=>simp[hi,hz] at ha
   | some z=>
    simp only[hi,hz,m7] at ha;obtain⟨hc,ha2⟩:=aH ha;clear ha;simp only[aa] at hc;obtain⟨q1,q2,q3,q4⟩:=hc;have q1:=cS q1;have q3:=jq q3;have q4:=jq q4
    have q2:i.size≠0:=by intro e0;rw[e0] at q2;simp at q2
    cases hap:my P h e i.size xt y with
    | none=>simp[hap] at ha2
    | some nc=>
     obtain⟨n,cs⟩:=nc;simp only[hap,m7] at ha2;obtain⟨vs,v1,v2,v3⟩:=A2 hr q2 hap hu;obtain⟨zv,_,hzV,iz,hiz,hizz⟩:=iK (w:=w) (σ:=σ) hz
     have hzr:∀w',(zeroValue e).run P w'=.ok zv w':=λw'=>by simp[zeroValue,cX hiz,hizz]
     have hzs:zv.cells.size=i.size:=by have:=hzV.cells.1;simp at this;omega
     have hvl:=v1.1;cases hn0:beq n 0
     ·rw[hn0,aA] at ha2;have hn0:=iw hn0;obtain⟨hn6,ha3⟩:=aH ha2;clear ha2;have hn6:=jq hn6
      have grow:∀(base:Option Addr) (c:Nat) (mE:List AV) (olds:List Value) (bX:Nat),v=.slice base len c->c<len+n->VL σ mE olds->(∀w',w'.heap=w.heap->(Builtin.firstCells i.size len (.slice base len c)).run P w'=.ok olds.toArray w')->mE.length=len*i.size->
       ∃(nc:Nat) (w1:World) (rest:Array Value),len+n<=nc/\w1.heap=w.heap/\w1.os=w.os/\w1.tape=w.tape/\w1.output=w.output/\
        (Builtin.append_ ats T args).run P w=.ok (.slice (some ⟨w.heap.size,0,none⟩) (len+n) nc) { w1 with heap:=w.heap.push (.cells (olds.toArray++vs.toArray++rest) e (0,0)) }/\
        (olds.toArray++vs.toArray++rest).size=nc*i.size/\((olds.toArray++vs.toArray++rest).toList.take (olds++vs).length=olds++vs)/\bX=bX:=by
       intro base c mE olds bX hv0 hlt hvo hold hol;subst hv0;obtain⟨nc,w1,rest,g1,g2,g3,g4,g5,g6,g7⟩:=E9 (T:=T) h0 h1 h2 h3 hst hi rfl q4 (λw' hw'=>v3 w' hw') hn6 q3 hlt hzr hold;refine⟨nc,w1,rest,g1,g2,g3,g4,g5,g6,?_,?_,rfl⟩
       ·have:=hvo.1;simp only[Array.size_append,List.size_toArray,g7,hzs]
        have e1:olds.length=len*i.size:=by omega
        have e2:vs.length=n*i.size:=by omega
        rw[e1,e2,<-b5,<-b5]
        congr 1;omega
       ·simp only[Array.toList_append];rw[List.take_left'];simp
      split at ha3
      ·simp only[wg,qr,m8] at ha3;obtain⟨rfl,rfl⟩:=ha3
       cases hv with
       | ig hl0=>
        subst hl0;obtain⟨nc,w1,rest,g1,g2,g3,g4,g5,g6,g7,g8,_⟩:=grow none 0 [] [] 0 rfl i4 .nil (λw' _=>by simp[Builtin.firstCells]) ge;obtain⟨k1,k2⟩:=hr.KE (w1:=w1) (e:=e) (VL.append .nil v1) g8 g3 g4 g5;refine⟨_,_,_,g6,?_,k1,k2⟩;rw[Nat.zero_add] at g1 ⊢;exact .slice (ew _ _ _) g1 (by simp only[g7];omega) (λx hx=>by cases hx) (.inl rfl)
      ·rename_i id off;obtain⟨hes,ha4⟩:=aH ha3;clear ha3;have hes:=cS hes;subst hes
       cases hv with
       | @slice _ _ _ _ _ a p c hp hl hroom hcap haddr=>
        split at ha4
        ·rename_i c0;have:=hcap c0 rfl;subst this;cases hle:ble (len+n) c0
         ·rw[hle,aA] at ha4;have hlt:=xG hle
          cases hsc:cG h (some (id,off)) len i.size with
          | none=>simp[hsc] at ha4
          | some mE=>
           simp only[hsc,m6,wg,qr,m8] at ha4;obtain⟨rfl,rfl⟩:=ha4;obtain⟨olds,o1,o2,o3⟩:=nj (P:=P) (cap:=some c0) (v:=.slice (some a) len c0) hr hsc (.inl rfl) (ac _) (.slice hp hl hroom hcap haddr);obtain⟨nc,w1,rest,g1,g2,g3,g4,g5,g6,g7,g8,_⟩:=grow (some a) c0 mE olds 0 rfl hlt o1 o3 o2;obtain⟨k1,k2⟩:=hr.KE (w1:=w1) (e:=e) (VL.append o1 v1) g8 g3 g4 g5;refine⟨_,_,_,g6,?_,k1,k2⟩;exact .slice (ew _ _ _) g1 (by simp only[g7];omega) (λx hx=>by cases hx) (.inl rfl)
         ·rw[hle,aq] at ha4;have hle:=jq hle
          cases hst2:h.store id (off+len*i.size) cs with
          | none=>simp[hst2] at ha4
          | some h9=>
           simp only[hst2,m6,qr,m8] at ha4;obtain⟨rfl,rfl⟩:=ha4;have haddr:=haddr.resolve_right i4;subst haddr;obtain⟨w',s1,s2,s3⟩:=hr.rV (P:=P) hst2 hp v1;refine⟨σ,.slice (some ⟨p.b,p.d+off,none⟩) (len+n) c0,w',?_,.slice hp hle hroom hcap (.inl rfl),s2,s3⟩;rw[ji h0 h1 h2 h3 hst hi rfl q4 (v3 w rfl) hn6 hle];simp only[gO];rw[bc,s1];rfl
        ·split at ha4
         ·rename_i bs bX ho;obtain⟨hlb,ha5⟩:=aH ha4;clear ha4;have hlb:=jq hlb;obtain⟨hone,ha6⟩:=aH ha5;clear ha5;simp only[qr,m8] at ha6;obtain⟨rfl,rfl⟩:=ha6;obtain⟨_,_,_,a4,_⟩:=nG hr ho;obtain⟨q',carr,e',hq',b1,b2,b3,b4⟩:=hr.cells ho;rw[hp] at hq';cases hq'
          have hsc:h.chunk id off (len*i.size)=some ((bs.drop off).take (len*i.size)):=by
           simp[H.chunk,ho,fc hlb]
          obtain⟨olds,o1,o2,o3⟩:=hr.chunk hsc hp;by_cases hin:len+n<=c
          ·have haddr:=haddr.resolve_right i4;subst haddr;have hmul:(len+n)*i.size<=c*i.size:=bi _ hin;have hmul2:(len+n)*i.size=len*i.size+n*i.size:=b5 _ _ _;obtain⟨w',c',hrun,hw',hsz,hget,hoth,s1,s2,s3,s4⟩:=nf (P:=P) (o:=p.d+off+len*i.size) vs 0 w carr b1 i4 (v1.ki hone)
           have hcl:∀j:Nat,j<off+len*i.size->c'[p.d+j]?=carr[p.d+j]?:=by
            intro j hj;rw[hget,v6 i4]
           obtain⟨k1,k2⟩:=hr.fork (w':=w') (k:=off+len*i.size) (cs':=(bs.drop off).take (len*i.size)++cs) (q:=⟨p.b,p.d+off,p.r-off⟩) ho hp (.inl rfl)
            (by
             refine⟨c',e',hw',by rw[hsz];exact b2,by simp;omega,?_⟩;intro j aj haj;rw[am] at haj;split at haj
             ·rename_i hj;obtain⟨vj,e1,e2⟩:=b4 j aj haj;exact⟨vj,by rw[hcl j hj];exact e1,e2⟩
             ·cases haj)
            (by
             refine⟨c',e',hw',by rw[hsz];simp only;omega,by simp only[li,o2,v2];omega,?_⟩;intro j aj haj;rw[ap,o2] at haj;have hle':=pq (p:=⟨p.b,p.d+off,p.r-off⟩) (hr.fresh h.next (ac _));split at haj
             ·rename_i hj;rw[am,ut hj,bb] at haj;obtain⟨vj,e1,e2⟩:=b4 _ aj haj;exact⟨vj,by simp only;rw[show p.d+off+j=p.d+(off+j) by omega,hcl _ i4];exact e1,e2.mono hle'⟩
             ·rename_i hj;obtain⟨vj,e1,e2⟩:=v1.get haj;have hjl:=kJ e1;refine⟨vj,?_,e2.mono hle'⟩;simp only;rw[hget,ut i4,show p.d+off+j-(p.d+off+len*i.size+0)=j-len*i.size by omega]
              exact e1)
            (λb _ hb=>hoth b hb) i4 s2 s3 s4
           refine⟨_,.slice (some ⟨p.b,p.d+off,none⟩) (len+n) c,w',?_,?_,k1,k2⟩
           ·rw[ji h0 h1 h2 h3 hst hi rfl q4 (v3 w rfl) hn6 hin];simp only[gO];rw[hrun];rfl
           ·rw[a4];exact .slice (ew _ _ _) hin (by simp only;omega) (λx hx=>by cases hx) (.inl ge)
          ·have hlt:c<len+n:=by omega
           have hfc:∀w',w'.heap=w.heap->(Builtin.firstCells i.size len (.slice (some a) len c)).run P w'=.ok olds.toArray w':=by
            intro w' hww;by_cases hl0:len=0
            ·subst hl0
             have:olds=[]:=by
              have:=o1.1;rw[o2] at this;simp at this;exact be this.symm
             subst this;simp[Builtin.firstCells,loadCells,loadCellsFrom]
            ·have haddr:=haddr.resolve_right i4;subst haddr
             have el:len*i.size=olds.length:=by rw[<-o1.1];exact o2.symm
             simp only[Builtin.firstCells];rw[el]
             exact oC λj vj hj=>by rw[<-o3 j vj hj];simp[World.cell?,hww]
           obtain⟨nc,w1,rest,g1,g2,g3,g4,g5,g6,g7,g8,_⟩:=grow (some a) c _ olds 0 rfl hlt o1 hfc o2;have hor:=HY (id:=bX) (b:=w.heap.size) (e:=e) (VL.append (o1.mono (pq (p:=⟨w.heap.size,0,(olds.toArray++vs.toArray++rest).size⟩) (hr.fresh h.next (ac _)))) (v1.mono (pq (hr.fresh h.next (ac _))))) g8;have hltp:=hr.lt ho hp
           obtain⟨k1,k2⟩:=hr.fork (w':={ w1 with heap:=w.heap.push (.cells (olds.toArray++vs.toArray++rest) e (0,0)) }) (k:=off+len*i.size) (q:=⟨w.heap.size,0,(olds.toArray++vs.toArray++rest).size⟩) ho hp (.inr (ac _))
            (by
             simp only[bF];rw[v6 i4,b1];refine⟨carr,e',rfl,b2,by simp;omega,?_⟩;intro j aj haj;rw[am] at haj;split at haj
             ·exact b4 j aj haj
             ·cases haj)
            (by simpa using hor)
            (λb hb _=>by simp only[bF];rw[v6 i4]) ge g3 g4 g5
           refine⟨_,_,_,g6,?_,k1,k2⟩;rw[a4];exact .slice (ew _ _ _) g1 (by simp only[g7];omega) (λx hx=>by cases hx) (.inl rfl)
         ·simp at ha4
     ·rw[hn0,aq] at ha2;have:=cS hn0;subst this;simp only[qr,m8] at ha2;obtain⟨rfl,rfl⟩:=ha2
      have hvs:vs=[]:=by
       rw[v2] at hvl;simp at hvl;exact be hvl.symm
      subst hvs;refine⟨σ,v,w,?_,hv,hr,.refl _ _ _⟩
      cases hv with
      | ig hl0=>
       subst hl0;rw[ji h0 h1 h2 h3 hst hi rfl q4 (v3 w rfl) i4 i4]
      | slice hp hl hroom hcap haddr=>
       rw[ji h0 h1 h2 h3 hst hi rfl q4 (v3 w rfl) i4 i4];simp[storeCells]
 ·simp at ha
end
end Go.Ev
