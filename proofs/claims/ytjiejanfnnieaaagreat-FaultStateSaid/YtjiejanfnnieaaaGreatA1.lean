/- Lemmas of this claim, each with its conditions. -/
import Derived.RangeFuncLeaves
import Derived.LoopNIn
import Derived.Laws.Cells
import Derived.Laws.StructEq
set_option linter.all false
open Nat (beq ble blt div lor mod)
open List (all_eq_true range')
open Bool renaming and_eq_true -> aa, false_eq_true -> af, not_true -> bv, or_eq_true -> b8, not_false -> ci
open Nat renaming le_refl -> ac, lt_of_lt_of_le -> al, le_trans -> ay, lt_or_ge -> aR, add_assoc -> bc, mul_le_mul_right -> bi, mul_le_mul -> bw, add_mul -> b6, add_sub_cancel -> ca, sub_zero -> co, succ_mul -> ct
open List renaming getElem?_eq_none -> ad, getElem?_take -> am, getElem?_append -> ap, getElem?_cons_succ -> ax, getElem?_drop -> bb, eq_nil_of_length_eq_zero -> be, getElem?_map -> bh, getElem?_range -> bt, mapM_cons -> b0, forIn_cons -> b9, map_cons -> cc, range'_succ -> ch, all_cons -> cn, length -> cI
open Array renaming getElem?_eq_getElem -> a0, getElem?_setIfInBounds -> a9, getElem?_modify -> bo, getElem?_push -> bJ, range -> cb, toList_push -> cd
open Int renaming toNat_natCast -> ba, ofNat -> b5, natCast_mul -> b7, natCast_pow -> ce
open Option renaming getD_some -> cl
namespace Go
def ww{p : Prop}[Decidable p](h : decide p = true) : p:=of_decide_eq_true h
def wt{p : Prop}[Decidable p](h : decide p = false) : ¬p:=of_decide_eq_false h
def wp{p : Prop}[Decidable p] : (decide p = true) = p:=decide_eq_true_eq
def wn{p : Prop}{_ : Decidable p} : (decide p = false) ↔ ¬p:=decide_eq_false_iff_not
def wl{p : Prop}[Decidable p](h : p) : decide p = true:=decide_eq_true h
def wd{p : Prop}[Decidable p](h : ¬p) : decide p = false:=decide_eq_false h
def v6.{u}{c : Prop}{h : Decidable c}(k : ¬c){α : Sort u}{t e : α} : ite c t e = e:=if_neg k
def ut.{u}{c : Prop}{h : Decidable c}(k : c){α : Sort u}{t e : α} : ite c t e = t:=if_pos k
noncomputable def un.{v}{a : Prop}{b : Sort v}(h1 : a)(h2 : ¬a) : b:=absurd h1 h2
def ul.{u,v}{α : Type u}{β : Type v}{o : Option α}{f : α -> Option β}{b : β}(h : o.bind f = some b) : ∃ a, o = some a /\ f a = some b:=Option.bind_eq_some_iff.1 h
def t8.{u}{α : Type u}{l : List α}(h : l.length = 0) : l = []:=List.length_eq_zero_iff.1 h
def t7.{u}{α : Type u}{a b : α}{l : List α}(h : a ∈ b :: l) : a = b \/ a ∈ l:=List.mem_cons.1 h
def t6.{u}{α : Type u}{a b : α}(h : a ∈ [b]) : a = b:=List.mem_singleton.1 h
def rx.{u}{α : Type u}{a b : α}(h : a = b) : a ∈ [b]:=List.mem_singleton.2 h
def rt.{u}{α : Type u}{l : List α}{i : Nat}{a : α}(h : l[i]? = some a) : ∃ h : i < l.length, l[i] = a:=List.getElem?_eq_some_iff.1 h
def rg.{u,v}{α : Sort u}{β : Sort v}{a b : α}(f : α -> β)(h : a = b) : f a = f b:=congrArg f h
def rc:=@Option.some.injEq
def qr:=@Result.andThen_ok
def pp:=@Sem.run_bind
def ne:=@Sem.run_pure
def m9:=@Prod.mk.injEq
def m8:=@Option.bind_some
def m7:=@Option.map_some
def m6:=@List.cons.injEq
def mt:=@Nat.le_of_ble_eq_true
def md:=@List.length_append
def li:=@List.getElem?_eq_getElem
def jp:=@List.length_cons
def i7:=@List.length_nil
def i5{p : Prop}(h : p:=by omega) : p:=h
def i4{p : Prop}(h : p:=by rfl) : p:=h
def ii{p : Prop}(h : p:=by decide) : p:=h
def g9{p : Prop}(h : p:=by intro h;cases h) : p:=h
def gt{p : Prop}(h : p:=by simp) : p:=h
end Go
namespace Go.Ev
abbrev Rk:Nat:=3
abbrev vf:Nat:=14
abbrev J2:Nat:=2
abbrev Qd:Nat:=194
abbrev Qe:Nat:=198
noncomputable section
inductive AV where
 | bool (b:Bool)
 | int (k:IntKind) (n:Int)
 | str (s:List Nat)
 | ptr (o:Option (Nat×Nat))
 | slice (o:Option (Nat×Nat)) (len esz:Nat) (cap:Option Nat)
 | map (o:Option Nat)
 | fn (f:Fn) (first cap:List AV)
 | eb
 | iface (t:TypeId) (v:AV)
 | wJ
 | any
 | agg (cs:List AV)
 | cm (vs:List AV)
 deriving Inhabited
def AV.cells:AV->List AV
 | .agg cs=>cs
 | v=>[v]
def lH:AV:=.cm []
inductive Tr (α:Type) where
 | nil
 | node (v:Option α) (l r:Tr α)
 deriving Inhabited
def Tr.get{α:Type}(t:Tr α):Nat->Option α:=
 Tr.rec (motive:=λ_=>Nat->Option α) (λ_=>none) (λv _ _ l r k=>Bool.rec (Bool.rec (r (div (Nat.sub k 1) 2)) (l (div (Nat.sub k 1) 2)) (beq (mod k 2) 1)) v (beq k 0)) t
def Tr.lone{α:Type}(x:Option α)(fuel:Nat):Nat->Tr α:=
 Nat.rec (motive:=λ_=>Nat->Tr α) (λ_=>.nil) (λ_ f k=>Bool.rec (Bool.rec (.node none .nil (f (div (Nat.sub k 1) 2))) (.node none (f (div (Nat.sub k 1) 2)) .nil) (beq (mod k 2) 1)) (.node x .nil .nil) (beq k 0)) fuel
def Tr.put{α:Type}(t:Tr α)(k:Nat)(x:Option α):Tr α:=
 Tr.rec (motive:=λ_=>Nat->Tr α) (λk=>Tr.lone x (Nat.succ k) k)
  (λv l r pl pr k=>Bool.rec (Bool.rec (.node v l (pr (div (Nat.sub k 1) 2))) (.node v (pl (div (Nat.sub k 1) 2)) r) (beq (mod k 2) 1)) (.node x l r) (beq k 0)) t k
structure jT where
 fn:Option Fn
 Ew:Nat
 args:List AV
 cap:List AV
 deriving Inhabited
inductive AO where
 | cells (cs:List AV) (bO:Nat)
 | ro (cs:List AV)
 | map (es:List (AV×AV×Nat)) (clock:Nat)
 | Kw (s:List Nat) (pos:Nat)
 | iT (m:Option Nat) (since:Nat) (seen:List Nat) (stepped:Nat)
 | loop (st:LoopState) (pending:Option Code) (t:Tr AV) (n:Nat) (params:Array Tmp) (assign body:Code) (mC:Nat)
 | mC (taken:Bool)
 deriving Inhabited
structure H where
 aU:Tr AO
 dy:Tr (Nat×Nat)
 next:Nat
 low:Nat
 deriving Inhabited
def gQ(a b:Nat):Nat:=cond (ble a b) a b
structure St where
 t:Tr AV
 n:Nat
 h:H
 ds:List jT
 deriving Inhabited
abbrev R(α:Type):=Option (List α)
def Rg{α β:Type}(f:α->R β):List α->R β
 | []=>some []
 | [x]=>f x
 | x::xs=>match f x,Rg f xs with
  | some a,some b=>some (a++b)
  | _,_=>none
def Q7{α β:Type}(r:R α)(f:α->R β):R β:=match r with
 | some l=>Rg f l
 | none=>none
def one{α:Type}(x:α):R α:=some [x]
def lL:Nat->Value->Option AV
 | 0,_=>none
 | n+1,v=>match v with
  | .bool b=>some (.bool b)
  | .int k n=>some (.int k n)
  | .string s=>some (.str (s.data.toList.map (·.toNat)))
  | .pointer none=>some (.ptr none)
  | .slice none 0 0=>some (.slice none 0 0 (some 0))
  | .map none=>some (.map none)
  | .nilFunc=>some .eb
  | .nilIface=>some .wJ
  | .agg cs=>(cs.toList.mapM (lL n)).map .agg
  | .tuple cs=>(cs.toList.mapM (lL n)).map .cm
  | .iface t v=>(lL n v).map (.iface t)
  | _=>none
def mB:Nat:=6
def sF(a b:Int):Bool:=match b-a with
 | .ofNat _=>true
 | .negSucc _=>false
def NK:IntKind->Int
 | .i8 => -128 | .i16 => -32768 | .i32 => -2147483648 | .i64 => -9223372036854775808 | _=>0
def Nz:IntKind->Int
 | .i8=>127 | .i16=>32767 | .i32=>2147483647 | .i64=>9223372036854775807
 | .u8=>255 | .u16=>65535 | .u32=>4294967295 | .u64=>18446744073709551615
def dP(k:IntKind)(n:Int):Int:=cond (sF (NK k) n&&sF n (Nz k)) n (k.wrap n)
def PK(a b:Int):Bool:=sF a b&&sF b a
def uC:List Nat->List Nat->Bool
 | [],[]=>true
 | a::x,b::y=>beq a b&&uC x y
 | _,_=>false
def fe:List Nat->List Nat->Bool
 | _,[]=>false
 | [],_::_=>true
 | a::x,b::y=>blt a b||(beq a b&&fe x y)
def AG(a b:IntKind):Bool:=match a,b with
 | .i8,.i8 | .i16,.i16 | .i32,.i32 | .i64,.i64 | .u8,.u8 | .u16,.u16 | .u32,.u32 | .u64,.u64=>true
 | _,_=>false
def cw(P:Program)(t:TypeId):Option Nat:=(P.info? t).map (·.size)
def qq(P:Program)(t:TypeId):Option Bool:=(P.underlying t).map λ
 | .struct _ | .array _ _=>true
 | _=>false
def de(P:Program)(t:TypeId):Option AV:=(P.info? t).bind λi=>i.zero.bind (lL mB)
def eV(P:Program)(t:TypeId)(cs:List AV)(off:Nat):Option AV:=
 match qq P t with
 | some true=>(cw P t).bind λn=>cond (ble (off+n) cs.length) (some (.agg ((cs.drop off).take n))) none
 | some false=>cs[off]?
 | none=>none
def eqFields(P:Program)(eq:TypeId->AV->AV->Option Bool):List Field->List AV->List AV->Option Bool
 | [],_,_=>some true
 | f::fs,xs,ys=>
  cond (f.name== "_") none
   (
    match eV P f.type xs f.offset,eV P f.type ys f.offset with
    | some a,some b=>match eq f.type a b with
     | some true=>eqFields P eq fs xs ys
     | r=>r
    | _,_=>none)
def sV(P:Program)(eq:AV->AV->Option Bool)(e s:Nat)(xs ys:List AV):Nat->Nat->Option Bool
 | 0,_=>some true
 | m+1,i=>match eV P e xs (i*s),eV P e ys (i*s) with
  | some a,some b=>match eq a b with
   | some true=>sV P eq e s xs ys m (i+1)
   | r=>r
  | _,_=>none
def lk(P:Program):Nat->TypeId->AV->AV->Option Bool
 | 0,_,_,_=>none
 | d+1,t,x,y=>
  match P.underlying t,x,y with
  | some .bool,.bool a,.bool b=>some (a==b)
  | some (.int _),.int k a,.int k' b=>cond (AG k k') (some (PK a b)) none
  | some .string,.str a,.str b=>some (uC a b)
  | some (.pointer _),.ptr none,.ptr b=>some b.isNone
  | some (.pointer _),.ptr (some _),.ptr none=>some false
  | some (.slice _),.slice none _ _ _,.slice b _ _ _=>some b.isNone
  | some (.slice _),.slice (some _) _ _ _,.slice none _ _ _=>some false
  | some (.map _ _),.map none,.map b=>some b.isNone
  | some (.map _ _),.map (some _),.map none=>some false
  | some (.func _ _ _),.eb,.eb=>some true
  | some (.func _ _ _),.eb,.fn ..=>some false
  | some (.func _ _ _),.fn ..,.eb=>some false
  | some (.struct fs),.agg xs,.agg ys=>
   cond (P.stoodInHeld t) none (eqFields P (lk P d) fs.toList xs ys)
  | some (.array n e),.agg xs,.agg ys=>(cw P e).bind λs=>sV P (lk P d e) e s xs ys n 0
  | _,_,_=>none
def fN(eq:AV->AV->Bool):List AV->List AV->Bool
 | [],[]=>true
 | x::xs,y::ys=>eq x y&&fN eq xs ys
 | _,_=>false
def gM:Nat->AV->AV->Bool
 | 0,_,_=>false
 | n+1,a,b=>match a,b with
  | .bool a,.bool b=>a==b
  | .int k a,.int k' b=>AG k k'&&PK a b
  | .str a,.str b=>uC a b
  | .ptr none,.ptr none=>true
  | .ptr (some (a,b)),.ptr (some (c,d))=>beq a c&&beq b d
  | .slice (some (a,b)) l e c,.slice (some (a',b')) l' e' c'=>beq a a'&&beq b b'&&beq l l'&&beq e e'&&(match c,c' with | none,none=>true | some x,some y=>beq x y | _,_=>false)
  | .slice none l e (some c),.slice none l' e' (some c')=>beq l l'&&beq e e'&&beq c c'
  | .map none,.map none=>true
  | .map (some a),.map (some b)=>beq a b
  | .eb,.eb=>true
  | .wJ,.wJ=>true
  | .agg xs,.agg ys=>fN (gM n) xs ys
  | .cm xs,.cm ys=>fN (gM n) xs ys
  | .fn (.yield f) [] [],.fn (.yield f') [] []=>beq f f'
  | .fn (.func f) xs ys,.fn (.func f') xs' ys'=>beq f f'&&(fN (gM n) xs xs'&&fN (gM n) ys ys')
  | .iface t x,.iface t' y=>beq t t'&&gM n x y
  | .fn (.method f) xs ys,.fn (.method f') xs' ys'=>decide (f=f')&&(fN (gM n) xs xs'&&fN (gM n) ys ys')
  | _,_=>false
def mD:AV->Bool
 | .bool _ | .int _ _ | .str _=>true
 | _=>false
def Dd:AV->Bool
 | .agg cs=>cs.all mD
 | v=>mD v
def stays(k mi:AV):Bool:=Dd k&&gM 3 k mi
def H.cellsOf(h:H)(id:Nat):Option (List AV×Nat):=match h.aU.get id with
 | some (.cells cs bO)=>some (cs,bO)
 | _=>none
def H.mI(h:H)(cs:List AV):Nat×H:=
 (h.next,{ h with aU:=h.aU.put h.next (some (.cells cs h.next)),dy:=h.dy.put h.next (some (h.next,h.next)),next:=h.next+1 })
def H.newObj(h:H)(o:AO):Nat×H:=(h.next,{ h with aU:=h.aU.put h.next (some o),next:=h.next+1 })
def H.alone(h:H)(id bO:Nat):H:=match h.dy.get bO with
 | some (x,y)=>
  cond (beq x id&&beq y id) h
   { h with aU:=cond (beq y id) (h.aU.put x none) (cond (beq x id) (h.aU.put y none) ((h.aU.put x none).put y none)),dy:=h.dy.put bO (some (id,id)),low:=gQ h.low (gQ x y) }
 | none=>h
def jS:AV->Bool
 | .agg _ | .cm _ | .any=>false
 | _=>true
def H.en(h:H)(id bO:Nat)(mi new:List AV):H:=
 let h1:=h.alone id bO
 { aU:=(h1.aU.put id (some (.cells mi bO))).put h1.next (some (.cells new bO)),dy:=h1.dy.put bO (some (id,h1.next)),next:=h1.next+1,low:=gQ h1.low id }
def H.store(h:H)(id off:Nat)(vs:List AV):Option H:=match h.aU.get id with
 | some (.cells cs bO)=>
  cond (ble (off+vs.length) cs.length&&vs.all jS)
   (
    let h1:=h.alone id bO
    some { h1 with aU:=h1.aU.put id (some (.cells (cs.take off++(vs++cs.drop (off+vs.length))) bO)),low:=gQ h1.low id })
   none
 | _=>none
def H.chunk(h:H)(id off n:Nat):Option (List AV):=match h.aU.get id with
 | some (.cells cs _)=>cond (ble (off+n) cs.length) (some ((cs.drop off).take n)) none
 | some (.ro cs)=>cond (ble (off+n) cs.length) (some ((cs.drop off).take n)) none
 | _=>none
def H.load(P:Program)(h:H)(t:TypeId)(id off:Nat):Option AV:=match qq P t with
 | some true=>(cw P t).bind λn=>(h.chunk id off n).map .agg
 | some false=>match h.aU.get id with
  | some (.cells cs _)=>cs[off]?
  | some (.ro cs)=>cs[off]?
  | _=>none
 | none=>none
def H.storeVar(P:Program)(h:H)(t:TypeId)(id off:Nat)(v:AV):Option H:=
 (cw P t).bind λn=>cond (beq v.cells.length n) (h.store id off v.cells) none
def ev(t:Tr AV):Operand->Option AV
 | .tmp i=>some (match t.get i with | some v=>v | none=>lH)
 | .const v=>lL mB v
 | .func f=>some (.fn (.func f) [] [])
 | .global _=>none
def Ng(t:Tr AV)(y:Option Operand):Option (Option AV):=match y with
 | none=>some none
 | some y=>(ev t y).map some
def Az(t:Tr AV)(l:List Operand):Option (List AV):=l.mapM (ev t)
def jV(place:Nat->Option (Nat×Nat))(cells:List AV):List (Nat×AV)->Option (List AV)
 | []=>some cells
 | (i,v)::rest=>match place i with
  | none=>none
  | some (off,size)=>
   cond (beq v.cells.length size&&ble (off+size) cells.length)
    (jV place (cells.take off++(v.cells++cells.drop (off+size))) rest) none
def rep(zero:List AV):Nat->List AV
 | 0=>[]
 | n+1=>zero++rep zero n
def lA(t:Tr AV)(l:List (Nat×Operand)):Option (List (Nat×AV)):=l.mapM λp=>(ev t p.2).map λv=>(p.1,v)
def vi(P:Program)(fs:Array Field)(i:Nat):Option (Nat×Nat):=(fs[i]?).bind λf=>(cw P f.type).map λs=>(f.offset,s)
def uJ(P:Program)(t:TypeId)(parts:List (Nat×AV)):Option AV:=
 (de P t).bind λz=>match P.underlying t with
  | some (.struct fs)=>cond (fs.toList.all λf=>(cw P f.type).isSome) ((jV (vi P fs) z.cells parts).map .agg) none
  | some (.array _ e)=>(cw P e).bind λs=>(jV (λi=>some (i*s,s)) z.cells parts).map .agg
  | _=>none
def c7:AV->Option Nat
 | .int _ (.ofNat n)=>some n
 | _=>none
def gI(P:Program)(t:TypeId)(len:Nat)(parts:List (Nat×AV)):Option (Nat×List AV):=
 match P.underlying t with
 | some (.slice e)=>
  (cw P e).bind λs=>(de P e).bind λz=>
   cond (ble (len*s) 16777216&&(beq z.cells.length s&&!(beq s 0)))
    ((jV (λi=>some (i*s,s)) (rep z.cells len) parts).map λcs=>(s,cs))
    none
 | _=>none
def Cx(op:BinOp)(a b:Int):Option AV:=match op with
 | .eql=>some (.bool (PK a b))
 | .neq=>some (.bool (!(PK a b)))
 | .lss=>some (.bool (!(sF b a)))
 | .leq=>some (.bool (sF a b))
 | .gtr=>some (.bool (!(sF a b)))
 | .geq=>some (.bool (sF b a))
 | _=>none
def R0:Int->Bool
 | .ofNat n=>beq n 0
 | _=>false
def da(P:Program)(op:BinOp)(t:TypeId)(x y:AV):Option AV:=
 match x,y with
 | .int k a,.int k' b=>
  match op with
  | .shl | .shr=>cond (sF 0 b&&sF b 64) (match op with
   | .shl=>some (.int k (dP k (a*((2^(min b.toNat k.bits):Nat):Int))))
   | _=>some (.int k (a.fdiv ((2^(min b.toNat k.bits):Nat):Int)))) none
  | _=>
  cond (AG k k')
   (
    match op with
    | .add=>some (.int k (dP k (a+b)))
    | .sub=>some (.int k (dP k (a-b)))
    | .mul=>some (.int k (dP k (a*b)))
    | .quo=>cond (R0 b) none (some (.int k (dP k (a.tdiv b))))
    | .rem=>cond (R0 b) none (some (.int k (a.tmod b)))
    | .and | .or | .xor | .andNot=>none
    | _=>Cx op a b) none
 | .str a,.str b=>match op with
  | .add=>cond (ble (a.length+b.length) 1000000) (some (.str (a++b))) none
  | .eql=>some (.bool (uC a b))
  | .neq=>some (.bool (!(uC a b)))
  | .lss=>some (.bool (fe a b))
  | .leq=>some (.bool (fe a b||uC a b))
  | .gtr=>some (.bool (!(fe a b||uC a b)))
  | .geq=>some (.bool (!(fe a b)))
  | _=>none
 | .wJ,_=>none
 | x,y=>match op with
  | .eql=>cond (P.eqGuardType P.depth t) none ((lk P 8 t x y).map .bool)
  | .neq=>cond (P.eqGuardType P.depth t) none ((lk P 8 t x y).map λb=>.bool (!b))
  | _=>none
def SA(op:UnOp)(x:AV):Option AV:=match op,x with
 | .neg,.int k n=>some (.int k (dP k (0-n)))
 | .not,.bool b=>some (.bool (!b))
 | _,_=>none
def mA(P:Program)(src dst:TypeId)(x:AV):Option AV:=match P.underlying src,P.underlying dst,x with
 | some _,some (.int k),.int _ n=>some (.int k (dP k n))
 | some _,some .string,.str s=>some (.str s)
 | _,_,_=>none
def pQ(len:Nat)(cap:Option Nat)(n:Nat):Bool:=ble n len||(match cap with | some c=>ble n c | none=>false)
def ou(len:Nat)(cap:Option Nat)(hi:Option AV):Option Nat:=match hi with
 | some v=>(c7 v).bind λh=>cond (pQ len cap h) (some h) none
 | none=>some len
def cK(len:Nat)(cap:Option Nat)(lo hi mx:Option AV):Option (Nat×Nat×Option Nat):=
 match mx with
 | some v=>(c7 v).bind λm=>cond (pQ len cap m)
  (
   match hi with
   | some v=>(c7 v).bind λh=>cond (ble h m)
    (
     match lo with
     | some v=>(c7 v).bind λl=>cond (ble l h) (some (l,h,some m)) none
     | none=>some (0,h,some m)) none
   | none=>none) none
 | none=>(ou len cap hi).bind λh=>match lo with
  | some v=>(c7 v).bind λl=>cond (ble l h) (some (l,h,cap)) none
  | none=>some (0,h,cap)
def bT:Option Nat->Nat->Option Nat
 | some c,l=>some (c-l)
 | none,_=>none
def vq(P:Program)(h:H)(t:TypeId)(x:AV)(lo hi mx:Option AV):Option AV:=
 match P.underlying t,x with
 | some (.array n e),.ptr (some (id,off))=>
  (cw P e).bind λs=>(cK n (some n) lo hi mx).bind λ(l,hh,m)=>match m with
   | some m=>match h.aU.get id with
    | some (.cells cs _)=>cond (ble (off+n*s) cs.length) (some (.slice (some (id,off+l*s)) (hh-l) s (some (m-l)))) none
    | _=>none
   | none=>none
 | some .string,.str s=>match mx with
  | some _=>none
  | none=>(cK s.length (some s.length) lo hi none).map λ(l,hh,_)=>.str ((s.drop l).take (hh-l))
 | some (.slice e),.slice o len es cap=>
  (cw P e).bind λs=>(cK len cap lo hi mx).bind λ(l,hh,m)=>match o with
   | none=>some (.slice none 0 0 (some 0))
   | some (id,off)=>cond (beq s es) (some (.slice (some (id,off+l*s)) (hh-l) s (bT m l))) none
 | _,_=>none
def kn(P:Program)(t:TypeId)(l c:AV):Option (Nat×Nat×Nat×List AV):=
 match P.underlying t with
 | some (.slice e)=>(c7 l).bind λl=>(c7 c).bind λc=>(P.info? e).bind λi=>(de P e).bind λz=>
  cond (ble l c&&(ble c 1000000&&(ble i.bytes 10000&&(beq z.cells.length i.size&&!(beq i.size 0)))))
   (some (l,i.size,c,rep z.cells c)) none
 | _=>none
def kc(P:Program)(t:TypeId)(x i:AV):Option AV:=
 (c7 i).bind λi=>match P.underlying t,x with
  | some (.array n e),.ptr (some (id,off))=>(cw P e).bind λs=>cond (blt i n) (some (.ptr (some (id,off+i*s)))) none
  | some (.slice e),.slice (some (id,off)) len es _=>(cw P e).bind λs=>cond (blt i len&&beq s es) (some (.ptr (some (id,off+i*s)))) none
  | _,_=>none
def uT(P:Program)(t:TypeId)(x i:AV):Option AV:=
 (c7 i).bind λi=>match P.underlying t,x with
  | some (.array n e),.agg cs=>(cw P e).bind λs=>cond (blt i n) (eV P e cs (i*s)) none
  | some .string,.str s=>(s[i]?).map λb=>.int .u8 (b5 b)
  | _,_=>none
def jh(P:Program)(s:TypeId)(x:AV)(f:Nat):Option AV:=
 match P.underlying s,x with
 | some (.struct fs),.ptr (some (id,off))=>(fs[f]?).bind λfd=>(cw P fd.type).bind λn=>cond (beq n 0) none (some (.ptr (some (id,off+fd.offset))))
 | _,_=>none
def uN(P:Program)(s:TypeId)(x:AV)(f:Nat):Option AV:=
 match P.underlying s,x with
 | some (.struct fs),.agg cs=>(fs[f]?).bind λfd=>eV P fd.type cs fd.offset
 | _,_=>none
def oh(P:Program)(ck:TypeId->AV->Bool):List Field->List AV->Bool
 | [],_=>true
 | f::fs,xs=>!(f.name== "_")&&((match eV P f.type xs f.offset with | some a=>ck f.type a | none=>false)&&oh P ck fs xs)
def xf(P:Program)(ck:AV->Bool)(e s:Nat)(xs:List AV):Nat->Nat->Bool
 | 0,_=>true
 | m+1,i=>(match eV P e xs (i*s) with | some a=>ck a | none=>false)&&xf P ck e s xs m (i+1)
def EH(P:Program):Nat->TypeId->AV->Bool
 | 0,_,_=>false
 | d+1,t,x=>match P.underlying t,x with
  | some .bool,.bool _ | some (.int _),.int _ _ | some .string,.str _=>true
  | some (.struct fs),.agg xs=>oh P (EH P d) fs.toList xs
  | some (.array n e),.agg xs=>match cw P e with
   | some s=>xf P (EH P d e) e s xs n 0
   | none=>false
  | _,_=>false
def wH(P:Program)(t:TypeId)(k:AV):Bool:=EH P 4 t k
def gN(P:Program)(kt:TypeId)(k:AV):List (AV×AV×Nat)->Nat->Option (Option Nat)
 | [],_=>some none
 | e::es,i=>match lk P 4 kt k e.1 with
  | some true=>some (some i)
  | some false=>gN P kt k es (i+1)
  | none=>none
def H.mapOf(h:H)(id:Nat):Option (List (AV×AV×Nat)×Nat):=match h.aU.get id with
 | some (.map es c)=>some (es,c)
 | _=>none
def H.set(h:H)(id:Nat)(o:AO):H:={ h with aU:=h.aU.put id (some o),low:=gQ h.low id }
def dn(P:Program)(t:TypeId):Option (TypeId×TypeId):=match P.underlying t with
 | some (.map k e)=>some (k,e)
 | _=>none
def setAt(x:AV×AV×Nat):List (AV×AV×Nat)->Nat->List (AV×AV×Nat)
 | [],_=>[]
 | _::es,0=>x::es
 | e::es,i+1=>e::setAt x es i
def rh(P:Program)(h:H)(t:TypeId)(x k:AV)(ok:Bool):Option AV:=
 (dn P t).bind λ(kt,et)=>cond (wH P kt k)
  (let es:Option (List (AV×AV×Nat)):=match x with
   | .map none=>some []
   | .map (some id)=>(h.mapOf id).map (·.1)
   | _=>none
   es.bind λes=>(gN P kt k es 0).bind λr=>
    let v:Option (AV×Bool):=match r with
     | some i=>(es[i]?).map λe=>(e.2.1,true)
     | none=>(de P et).map λz=>(z,false)
    v.map λ(v,b)=>cond ok (.cm [v,.bool b]) v) none
def ko(P:Program)(h:H)(t:TypeId)(x k v:AV):Option H:=
 (dn P t).bind λ(kt,_)=>cond (wH P kt k)
  (
   match x with
   | .map (some id)=>(h.mapOf id).bind λ(es,c)=>(gN P kt k es 0).bind λr=>match r with
    | some i=>(es[i]?).bind λe=>cond (stays k e.1) (some (h.set id (.map (setAt (k,v,e.2.2) es i) c))) none
    | none=>some (h.set id (.map (es++[(k,v,c)]) (c+1)))
   | _=>none) none
def vb(P:Program)(h:H)(t:TypeId)(x k:AV):Option (AV×H):=
 (dn P t).bind λ(kt,et)=>cond (wH P kt k)
  (
   match x with
   | .map (some id)=>(h.mapOf id).bind λ(es,c)=>(gN P kt k es 0).bind λr=>match r with
    | some i=>(es[i]?).bind λe=>cond (stays k e.1) (some (.cm [e.2.1,.int .i64 (b5 e.2.2)],h.set id (.map (setAt (k,e.2.1,e.2.2) es i) c))) none
    | none=>(de P et).map λz=>(.cm [z,.int .i64 (b5 c)],h.set id (.map (es++[(k,z,c)]) (c+1)))
   | _=>none) none
def j6(b:Nat):List (AV×AV×Nat)->Nat->Option Nat
 | [],_=>none
 | e::es,i=>cond (beq e.2.2 b) (some i) (j6 b es (i+1))
def qh(h:H)(x stamp v:AV):Option H:=match x with
 | .map (some id)=>(h.mapOf id).bind λ(es,c)=>(c7 stamp).bind λb=>(j6 b es 0).bind λi=>(es[i]?).map λe=>h.set id (.map (setAt (e.1,v,e.2.2) es i) c)
 | _=>none
def vl(P:Program)(h:H)(t:TypeId)(x:AV):Option (AV×H):=match P.underlying t,x with
 | some .string,.str s=>let (id,h):=h.newObj (.Kw s 0);some (.ptr (some (id,0)),h)
 | some (.map _ _),.map none=>let (id,h):=h.newObj (.iT none 0 [] 0);some (.ptr (some (id,0)),h)
 | some (.map _ _),.map (some m)=>(h.mapOf m).map λ(_,c)=>let (id,h):=h.newObj (.iT (some m) c [] c);(.ptr (some (id,0)),h)
 | _,_=>none
def seenIn(b:Nat):List Nat->Bool
 | []=>false
 | x::xs=>beq x b||seenIn b xs
def qa(h:H)(id m since:Nat)(seen:List Nat)(clock:Nat)(mi new:List (AV×AV×Nat)):List (AV×H):=
 (cond mi.isEmpty [(.cm [.bool false],h)] [])++(mi++new).map λe=>(.cm [.bool true,e.1,e.2.1],h.set id (.iT (some m) since (seen++[e.2.2]) clock))
def yR(h:H)(x:AV)(isString:Bool):R (AV×H):=match x with
 | .ptr (some (id,0))=>match h.aU.get id,isString with
  | some (.iT none _ _ _),false=>one (.cm [.bool false],h)
  | some (.iT (some m) since seen last),false=>(h.mapOf m).bind λ(es,clock)=>
   cond (!seen.isEmpty&&(!es.isEmpty&&es.all (λe=>ble last e.2.2))) none
    (some (qa h id m since seen clock ((es.filter λe=>!(seenIn e.2.2 seen)).filter λe=>blt e.2.2 since) ((es.filter λe=>!(seenIn e.2.2 seen)).filter λe=>!(blt e.2.2 since))))
  | _,_=>none
 | _=>none
def uL(h:H)(x:AV):Option AV:=match x with
 | .ptr (some (id,0))=>match h.aU.get id with
  | some (.iT (some m) _ seen stepped)=>match seen.getLast? with
   | some stamp=>(h.mapOf m).bind λ(es,c)=>cond (beq c stepped)
    ((j6 stamp es 0).bind λi=>(es[i]?).map λe=>.cm [e.1,e.2.1]) none
   | none=>none
  | _=>none
 | _=>none
def cx(h:H)(o:Option (Nat×Nat))(n es:Nat):Option (List AV):=match o with
 | none=>cond (beq n 0) (some []) none
 | some (id,off)=>cond (beq n 0) (some []) (h.chunk id off (n*es))
def mc(P:Program)(h:H)(e s:Nat)(xt:TypeId)(x:AV):Option (Nat×List AV):=
 match P.underlying xt with
 | some (.int _)=>(c7 x).bind λn=>(de P e).bind λz=>cond (ble n 1000000&&beq z.cells.length s) (some (n,rep z.cells n)) none
 | some _=>match x with
  | .slice o n es _=>cond (beq es s||beq n 0) ((cx h o n s).map λcs=>(n,cs)) none
  | _=>none
 | none=>none
def sK(P:Program)(h:H)(st xt:TypeId)(x y:AV):Option (AV×H):=
 match P.underlying st,x with
 | some (.slice e),.slice o len es cap=>(P.info? e).bind λi=>(de P e).bind λz=>
  cond (beq z.cells.length i.size&&(!(beq i.size 0)&&(ble len 1000000&&ble i.bytes 10000)))
   (
    (mc P h e i.size xt y).bind λ(n,cs)=>
    cond (beq n 0) (some (x,h))
     (cond (ble n 1000000)
      (
       match o with
       | none=>
        let (id,h):=h.mI cs
        some (.slice (some (id,0)) n i.size none,h)
       | some (id,off)=>cond (beq es i.size)
        (
         match cap with
         | some c=>cond (ble (len+n) c)
          ((h.store id (off+len*es) cs).map λh=>(.slice o (len+n) es cap,h))
          ((
           cx h o len es).map λmi=>
           let (id,h):=h.mI (mi++cs)
           (.slice (some (id,0)) (len+n) es none,h))
         | none=>match h.aU.get id with
          | some (.cells bs bO)=>cond (ble (off+len*es) bs.length)
           (cond (cs.all jS) (some (.slice (some ((h.alone id bO).next,0)) (len+n) es none,
            h.en id bO (bs.take (off+len*es)) ((bs.drop off).take (len*es)++cs))) none) none
          | _=>none) none) none)) none
 | _,_=>none
def EI(P:Program)(h:H)(dt:TypeId)(x y:AV):Option (AV×H):=match P.underlying dt,x,y with
 | some (.slice e),.slice o dl des _,.slice o' sl ses _=>(cw P e).bind λs=>
  let n:=Nat.min sl dl
  cond (beq n 0) (some (.int .i64 0,h))
   (cond (beq des s&&beq ses s)
    ((
     cx h o' n s).bind λcs=>match o with
     | some (id,off)=>(h.store id off cs).map λh=>(.int .i64 (b5 n),h)
     | none=>none) none)
 | _,_,_=>none
def Fs(P:Program)(h:H)(t:TypeId)(x:AV):Option AV:=
 (
  (match P.underlying t,x with
  | some .string,.str s=>some s.length
  | some (.array n _),_=>some n
  | some (.slice _),.slice _ n _ _=>some n
  | some (.map _ _),.map none=>some 0
  | some (.map _ _),.map (some id)=>(h.mapOf id).map λm=>m.1.length
  | _,_=>none):Option Nat).map λn=>.int .i64 (b5 n)
def yQ(isMax:Bool)(x y:AV):Option AV:=match x,y with
 | .int k a,.int _ b=>some (.int k (cond isMax (cond (sF b a) a b) (cond (sF a b) a b)))
 | .str a,.str b=>some (.str (cond isMax (cond (fe a b) b a) (cond (fe a b||uC a b) a b)))
 | _,_=>none
def np(isMax:Bool):AV->List AV->Option AV
 | x,[]=>some x
 | x,y::l=>(yQ isMax x y).bind λz=>np isMax z l
def sT(P:Program)(h:H)(t:TypeId)(x k:AV):Option (AV×H):=
 (dn P t).bind λ(kt,_)=>cond (wH P kt k)
  (
   match x with
   | .map none=>some (.cm [],h)
   | .map (some id)=>(h.mapOf id).bind λ(es,c)=>(gN P kt k es 0).map λr=>match r with
    | some i=>(.cm [],h.set id (.map (es.eraseIdx i) c))
    | none=>(.cm [],h)
   | _=>none) none
def xY(P:Program)(h:H)(t:TypeId)(x:AV):Option (AV×H):=match P.underlying t,x with
 | some (.slice _),.slice none _ _ _=>some (.cm [],h)
 | some (.slice e),.slice (some (id,off)) n es _=>(cw P e).bind λs=>(de P e).bind λz=>
  cond (beq n 0) (some (.cm [],h)) (cond (beq s es&&beq z.cells.length s) ((h.store id off (rep z.cells n)).map λh=>(.cm [],h)) none)
 | _,_=>none
def mz(P:Program)(h:H)(b:Builtin)(ats:List TypeId)(xs:List AV):Option (AV×H):=match b,ats,xs with
 | .append,st::xt::_,[x,y]=>sK P h st xt x y
 | .len,t::_,x::_=>(Fs P h t x).map λv=>(v,h)
 | .cap,t::_,[.slice _ _ _ (some c)]=>match P.underlying t with
  | some (.slice _)=>some (.int .i64 (b5 c),h)
  | _=>none
 | .copy,dt::_,x::y::_=>EI P h dt x y
 | .min,_,x::l=>(np false x l).map λv=>(v,h)
 | .max,_,x::l=>(np true x l).map λv=>(v,h)
 | .delete,t::_,x::k::_=>sT P h t x k
 | .clear,t::_,x::_=>xY P h t x
 | _,_,_=>none
def je(P:Program)(t:TypeId)(name:String):Option FuncId:=(P.info? t).bind λi=>
 (i.methods.find? (·.name==name)).bind λm=>match m.path.isEmpty,m.func with
  | true,some (f,false)=>match P.underlying t with
   | some (.struct _) | some (.int _) | some .string | some (.slice _)=>some f
   | _=>none
  | _,_=>none
def oG(P:Program)(x:AV):Option AV:=match x with
 | .ptr (some _)=>some x
 | .fn (.func _) _ _=>some x
 | .fn (.method name) [.iface t _] _=>(je P t name).map λ_=>x
 | .slice ..=>some x
 | _=>none
def oV(P:Program)(t:Tr AV)(o:Op)(id:Nat):Option (AV×AO):=match o with
 | .alloc e=>(de P e).map λz=>(.ptr (some (id,0)),.cells z.cells id)
 | .box _ x=>(ev t x).map λx=>(.ptr (some (id,0)),.cells x.cells id)
 | .buildSlice tt n ps=>(lA t ps.toList).bind λps=>(gI P tt n ps).map λ(s,cs)=>(.slice (some (id,0)) n s (some n),.cells cs id)
 | .makeMap tt r=>match r with
  | none=>some (.map (some id),.map [] 0)
  | some x=>match ev t x,dn P tt with
   | some (.int _ _),some _=>some (.map (some id),.map [] 0)
   | _,_=>none
 | .makeSlice tt l c=>(ev t l).bind λl=>(ev t c).bind λc=>(kn P tt l c).map λ(l,s,c,cs)=>(.slice (some (id,0)) l s (some c),.cells cs id)
 | _=>none
def PX:Op->Bool
 | .alloc _ | .box _ _ | .buildSlice _ _ _ | .makeMap _ _ | .makeSlice _ _ _=>true
 | _=>false
def H.lay(h:H)(id:Nat)(o:AO):H:=match o with
 | .cells _ _=>{ h with aU:=h.aU.put id (some o),dy:=h.dy.put id (some (id,id)) }
 | _=>{ h with aU:=h.aU.put id (some o) }
def ep(P:Program)(t:Tr AV)(h:H)(o:Op):R (Option AV×H):=
 let v (r:Option AV):R (Option AV×H):=r.map λx=>[(some x,h)]
 let vh (r:Option (AV×H)):R (Option AV×H):=r.map λx=>[(some x.1,x.2)]
 let u (r:Option H):R (Option AV×H):=r.map λx=>[(none,x)]
 match o with
 | .move x | .assign x=>v (ev t x)
 | .pick c a b=>(ev t a).bind λa=>(ev t b).bind λb=>match ev t c with
  | some (.bool true)=>v (some a)
  | some (.bool false)=>v (some b)
  | _=>none
 | .alloc _ | .box _ _ | .buildSlice _ _ _ | .makeMap _ _ | .makeSlice _ _ _=>
  vh ((oV P t o h.next).map λ(v,ob)=>(v,{ h.lay h.next ob with next:=h.next+1 }))
 | .build tt ps=>v ((lA t ps.toList).bind λps=>uJ P tt ps)
 | .load tt a=>match ev t a with
  | some (.ptr (some (id,off)))=>v (h.load P tt id off)
  | _=>none
 | .store tt a x=>match ev t a,ev t x with
  | some (.ptr (some (id,off))),some x=>u (h.storeVar P tt id off x)
  | _,_=>none
 | .nilCheck x=>v ((ev t x).bind (oG P))
 | .binOp op xt x y _=>v ((ev t x).bind λx=>(ev t y).bind λy=>da P op xt x y)
 | .unOp op _ x=>v ((ev t x).bind (SA op))
 | .convert s d x=>v ((ev t x).bind (mA P s d))
 | .makeInterface xt x=>match P.underlying xt with
  | some (.interface _)=>none
  | some _=>v ((ev t x).map λx=>.iface xt x)
  | none=>none
 | .makeFunc f first cap=>match f with
  | .yield _=>none
  | f=>v ((Az t first.toList).bind λa=>(Az t cap.toList).map λb=>.fn f a b)
 | .slice tt x lo hi mx=>v ((ev t x).bind λx=>(Ng t lo).bind λlo=>(Ng t hi).bind λhi=>(Ng t mx).bind λmx=>vq P h tt x lo hi mx)
 | .fieldAddr s x f=>v ((ev t x).bind λx=>jh P s x f)
 | .field s x f=>v ((ev t x).bind λx=>uN P s x f)
 | .indexAddr tt x i=>v ((ev t x).bind λx=>(ev t i).bind λi=>kc P tt x i)
 | .index tt x i=>v ((ev t x).bind λx=>(ev t i).bind λi=>uT P tt x i)
 | .lookup tt x k ok=>v ((ev t x).bind λx=>(ev t k).bind λk=>rh P h tt x k ok)
 | .mapUpdate tt m k x | .insert tt m k x=>u ((ev t m).bind λm=>(ev t k).bind λk=>(ev t x).bind λx=>ko P h tt m k x)
 | .mapEntry tt m k=>vh ((ev t m).bind λm=>(ev t k).bind λk=>vb P h tt m k)
 | .entryStore _ m s x=>u ((ev t m).bind λm=>(ev t s).bind λs=>(ev t x).bind λx=>qh h m s x)
 | .range tt x=>vh ((ev t x).bind λx=>vl P h tt x)
 | .next it isS=>match ev t it with
  | some it=>(yR h it isS).map λl=>l.map λx=>(some x.1,x.2)
  | none=>none
 | .entry it=>v ((ev t it).bind λit=>uL h it)
 | .extract x i=>match ev t x with
  | some (.cm vs)=>v vs[i]?
  | _=>none
 | .typeAssert x _ asserted ok=>match P.underlying asserted with
  | some (.interface _)=>none
  | some _=>match ev t x with
   | some (.iface d y)=>cond (beq d asserted) (v (some (cond ok (.cm [y,.bool true]) y))) none
   | _=>none
  | none=>none
 | .call { callee:=.builtin b,args,argTypes }=>vh ((Az t args.toList).bind λxs=>mz P h b argTypes.toList xs)
 | _=>none
inductive DV where
 | fl (a:AV)
 | sl (nl:Bool) (n e:Nat) (cs:List DV)
 | ag (cs:List DV)
 deriving Inhabited
def eC:AV->AV->Bool
 | .bool a,.bool b=>Bool.rec (Bool.rec true false b) b a
 | .int k a,.int k' b=>AG k k'&&PK a b
 | .str a,.str b=>uC a b
 | _,_=>false
mutual
def DV.eq:DV->DV->Bool
 | .fl a,.fl b=>eC a b
 | .sl x n e cs,.sl y m g ds=>(Bool.rec (Bool.rec true false y) y x)&&(beq n m&&(beq e g&&DV.uC cs ds))
 | .ag cs,.ag ds=>DV.uC cs ds
 | _,_=>false
def DV.uC:List DV->List DV->Bool
 | [],[]=>true
 | a::aS,b::bs=>DV.eq a b&&DV.uC aS bs
 | _,_=>false
end
def rowAt(h:H)(id:Nat):Option (List AV):=match h.aU.get id with
 | some (.cells cs _)=>some cs
 | some (.ro cs)=>some cs
 | _=>none
def Ot(h:H):Nat->AV->Option DV
 | 0,_=>none
 | k+1,a=>match a with
  | .slice none 0 e (some 0)=>some (.sl true 0 e [])
  | .slice (some (id,off)) n e _=>cond (beq n 0||ble h.next id) none
   ((rowAt h id).bind λrow=>cond (ble (off+n*e) row.length) ((((row.drop off).take (n*e)).mapM (Ot h k)).map λcs=>.sl false n e cs) none)
  | .agg aS=>(aS.mapM (Ot h k)).map .ag
  | a=>cond (mD a) (some (.fl a)) none
mutual
def canon:DV->Nat->AV×List (Option (List AV))
 | .fl a,_=>(a,[])
 | .sl nl n e cs,k=>match nl with
  | true=>(.slice none 0 e (some 0),[])
  | false=>(.slice (some (k,0)) n e none,(match n with | 0=>none | _=>some (eM cs (k+1)).1)::(eM cs (k+1)).2)
 | .ag cs,k=>(.agg (eM cs k).1,(eM cs k).2)
def eM:List DV->Nat->List AV×List (Option (List AV))
 | [],_=>([],[])
 | d::ds,k=>((canon d k).1::(eM ds (k+(canon d k).2.length)).1,(canon d k).2++(eM ds (k+(canon d k).2.length)).2)
end
def Rf:List (List DV×AV)->List DV->Option AV
 | [],_=>none
 | (ds,v)::l,es=>cond (DV.uC ds es) (some v) (Rf l es)
inductive Ex where
 | normal | ret
 | exit (id:Nat)
 | goto (l:Nat)
 deriving Inhabited
abbrev CV:=Fn->List AV->H->R (AV×H)
def St.put(st:St)(dst:Option Tmp)(v:AV):Option St:=match dst with
 | none=>some st
 | some d=>match st with
  | ⟨t,n,h,ds⟩=>cond (blt d n) (some ⟨t.put d (some v),n,h,ds⟩) none
def St.To(st:St)(h:H):St:=match st with
 | ⟨t,n,_,ds⟩=>⟨t,n,h,ds⟩
def uA(ops:List Oper)(t:Tr AV)(n:Nat)(o:Oper):Option Bool:=match o.guard with
 | none=>some true
 | some (j,want)=>match (ops[j]?).bind (·.dst) with
  | some d=>cond (blt d n) (match t.get d with
   | some (.bool b)=>some (b==want)
   | some (.cm []) | none=>some false
   | _=>none) none
  | none=>none
def pb(P:Program)(t:Tr AV)(c:Call):Option (Fn×List AV×List AV):=match c.callee with
 | .value f=>match ev t f with
  | some (.fn fn first cap)=>(Az t c.args.toList).map λxs=>(fn,first++xs,cap)
  | _=>none
 | .invoke r name=>match ev t r with
  | some (.iface tt v)=>(je P tt name).bind λf=>(Az t c.args.toList).map λxs=>(.func f,v::xs,[])
  | _=>none
 | .builtin _=>none
def fG:Op->Bool
 | .call { callee:=.builtin _,.. }=>false
 | .call _=>true
 | _=>false
def Ud(P:Program)(cv:CV)(ro:Option Nat)(o:Oper)(st:St):R St:=
 match o.op with
 | .defer c=>match ro with
  | some _=>none
  | none=>match c.callee with
   | .value g=>match ev st.t g with
    | some (.fn (.func f) first cap)=>match Az st.t c.args.toList with
     | some xs=>(({ st with ds:={ fn:=some (.func f),Ew:=0,args:=first++xs,cap }::st.ds }:St).put o.dst lH).map λs=>[s]
     | none=>none
    | _=>none
   | _=>none
 | op=>cond (fG op)
  (
   match op with
   | .call c=>match pb P st.t c with
    | some (fn,xs,cap)=>Q7 (cv fn (xs++cap) st.h) λ(v,h)=>((st.To h).put o.dst v).map λs=>[s]
    | none=>none
   | _=>none)
  (Q7 (ep P st.t st.h op) λ(v,h)=>((st.To h).put o.dst (match v with | some v=>v | none=>lH)).map λs=>[s])
def tu:Op->Bool
 | .store .. | .entryStore .. | .mapUpdate .. | .insert .. | .mapEntry .. | .next .. | .defer _ | .range ..=>true
 | .call { callee:=.builtin b,.. }=>match b with | .len | .cap | .min | .max=>false | _=>true
 | .call _=>true
 | _=>false
def bit(i:Nat):Nat:=2^i
def bP(m i:Nat):Bool:=Nat.testBit m i
def oE:List Oper->List Nat->List Nat
 | [],acc=>acc
 | o::rest,acc=>oE rest (acc++[o.after.toList.foldl (λm e=>cond (Region.binds .any e) (lor m (lor (bit e.on) (acc.getD e.on 0))) m) 0])
def tmpsOf(o:Oper):List Tmp:=o.op.operands.toList.filterMap λ| .tmp t=>some t | _=>none
def iI(ops:List Oper)(o:Oper):List Tmp:=tmpsOf o++(match o.guard with
 | some (j,_)=>match (ops[j]?).bind (·.dst) with
  | some d=>[d]
  | none=>[]
 | none=>[])
def Rn(t:Tr AV):List Tmp->Tr AV
 | []=>.nil
 | k::l=>(Rn t l).put k (t.get k)
def cT{α:Type}:Nat->List α->List (Nat×α)
 | _,[]=>[]
 | i,x::xs=>(i,x)::cT (i+1) xs
def RE(base:Nat)(m:Nat):List (Nat×AO)->H->H
 | [],h=>h
 | (i,o)::xs,h=>RE base m xs (cond (bP m i) (h.lay (base+i) o) h)
structure Dr where
 t:Tr AV
 c:H
 xs:List (Nat×AO)
 all:List (Nat×AO)
 m:Nat
 cs:List (Nat×Nat×H)
 reads:List (Nat×Tr AV×Op×AV)
 deriving Inhabited
def Dr.QJ(d:Dr)(n:Nat)(dst:Option Tmp)(v:AV):Option Dr:=match dst with
 | none=>some d
 | some k=>cond (blt k n) (some { d with t:=d.t.put k (some v) }) none
def S6(P:Program)(cv:CV)(ro:Option Nat)(base:Nat)(all:List Oper)(ms:List Nat)(n:Nat)(i:Nat)(o:Oper)(d:Dr):Option Dr:=
 let r:=Rn d.t (iI all o)
 match uA all r n o with
 | none=>none
 | some false=>d.QJ n o.dst lH
 | some true=>
  cond (tu o.op)
   (
    match Ud P cv ro o { t:=r,n,h:=RE base (ms.getD i 0) d.xs d.c,ds:=[] } with
    | some [st]=>(d.QJ n o.dst (match o.dst with | some k=>(st.t.get k).getD lH | none=>lH)).map λd=>
     { d with c:=st.h,xs:=d.xs.filter (λx=>!(bP (ms.getD i 0) x.1)),m:=lor d.m (ms.getD i 0),cs:=d.cs++[(i,lor d.m (ms.getD i 0),st.h)] }
    | _=>none)
   (cond (PX o.op)
    (
     match oV P r o.op (base+i) with
     | some (v,ob)=>(d.QJ n o.dst v).map λd=>{ d with xs:=d.xs++[(i,ob)],all:=d.all++[(i,ob)] }
     | none=>none)
    (
     match ep P r (RE base (ms.getD i 0) d.xs d.c) o.op with
     | some [(some v,_)]=>(d.QJ n o.dst v).map λd=>{ d with reads:=d.reads++[(i,r,o.op,v)] }
     | _=>none))
def H.pA(h:H)(id:Nat):Option (LoopState×Option Code×Tr AV×Nat×Array Tmp×Code×Code×Nat):=match h.aU.get id with
 | some (.loop st p t n ps a b d)=>some (st,p,t,n,ps,a,b,d)
 | _=>none
def CE(ro:Option Nat)(ps:Array Tmp)(assign body:Code)(st:St):Option (Nat×St):=match ro with
 | some l=>(st.h.pA l).map λr=>
  let (id,h):=st.h.newObj (.loop .ready none st.t st.n ps assign body r.2.2.2.2.2.2.2)
  (id,{ st with h:=h })
 | none=>
  let (r,h):=st.h.newObj (.mC false)
  let (id,h):=h.newObj (.loop .ready none st.t st.n ps assign body r)
  some (id,{ st with h:=h,ds:={ fn:=none,Ew:=r,args:=[],cap:=[] }::st.ds })
def xP:Nat->List AV->Tr AV->Tr AV
 | _,[],t=>t
 | i,x::xs,t=>xP (i+1) xs (t.put i (some x))
def tL(P:Program)(t:Tr AV)(h:H)(rs:List ResultVar):Option AV:=
 (rs.mapM λ
  | ResultVar.tmp i=>ev t (.tmp i)
  | ResultVar.cell a tt=>match ev t (.tmp a) with
   | some (.ptr (some (id,off)))=>h.load P tt id off
   | _=>none).map λvs=>match vs with
  | [v]=>v
  | vs=>.cm vs
def j8:Ex->Bool
 | .normal | .ret=>true
 | _=>false
inductive XK where
 | indexByte | cmp | clone | name
 | Tp (ts:List TypeId)
 | const (v:AV)
 | deep (tbl:List (List DV×AV))
 deriving Inhabited
def fQ(c:Nat):List Nat->Nat->Int
 | [],_ => -1
 | b::l,i=>cond (beq b c) (b5 i) (fQ c l (i+1))
def dG(b:Nat):Bool:=(ble 97 b&&ble b 122)||(ble 65 b&&ble b 90)
def kG(b:Nat):Bool:=dG b||((ble 48 b&&ble b 57)||beq b 95)
def cH:List Nat->Bool
 | []=>false
 | b::l=>dG b&&(l.all kG&&ble l.length 23)
def xA(k:XK)(args:List AV)(h:H):Option (AV×H):=match k,args with
 | .indexByte,[.str s,.int .u8 (.ofNat c)]=>cond (blt c 256) (some (.int .i64 (fQ c s 0),h)) none
 | .cmp,[.str a,.str b]=>some (.int .i64 (cond (fe a b) (-1) (cond (uC a b) 0 1)),h)
 | .clone,[.iface t (.map (some id))]=>(h.mapOf id).map λ(es,c)=>(.iface t (.map (some h.next)),{ h.lay h.next (.map es c) with next:=h.next+1 })
 | .name,[.str s]=>cond (ble s.length 1000000) (some (.bool (cH s),h)) none
 | .const v,[]=>some (v,h)
 | .deep tbl,args=>(args.mapM (Ot h 8)).bind λds=>(Rf tbl ds).map λv=>(v,h)
 | .Tp ts,[.iface t (.slice _ n _ _),.fn _ _ _]=>cond (ble n 1&&ts.any (beq t)) (some (.cm [],h)) none
 | _,_=>none
def js:List (Nat×AV)->Nat->Tr AV->Option (Tr AV)
 | [],_,t=>some t
 | (k,v)::l,n,t=>cond (blt k n) (js l n (t.put k (some v))) none
def get_nil{α:Type}(k:Nat):(Tr.nil:Tr α).get k=none:=rfl
def cP{a b:Nat}(h:beq a b=true):a=b:=Nat.eq_of_beq_eq_true h
def Mo{a b:Nat}(h:a=b):Nat.beq a b=true:=by subst h;simp
def jg{a b:Nat}(h:ble a b=true):a<=b:=mt h
def eY{a b:Nat}(h:a<=b):Nat.ble a b=true:=by simpa using h
def fO{a b:Nat}(h:blt a b=true):a<b:=mt h
def ar{α:Sort _}(a b:α):cond true a b=a:=rfl
def az{α:Sort _}(a b:α):cond false a b=b:=rfl
def KJ{α:Type}(b:Bool)(x y:α):Bool.rec (motive:=λ_=>α) y x b=cond b x y:=by cases b<;>rfl
def jF{α:Type}(v:Option α)(l r:Tr α)(k:Nat):
 (Tr.node v l r).get k=if k=0 then v else if k%2=1 then l.get ((k-1)/2) else r.get ((k-1)/2):=by
 have e:(Tr.node v l r).get k=cond (beq k 0) v (cond (beq (k%2) 1) (l.get ((k-1)/2)) (r.get ((k-1)/2))):=by
  rw[<-KJ,<-KJ];rfl
 rw[e];by_cases h0:k=0
 ·simp[h0]
 ·have e0:beq k 0=false:=by cases k<;>simp_all [beq]
  rw[e0,az,v6 h0];by_cases h1:k%2=1
  ·have e1:beq (k%2) 1=true:=Mo h1;rw[e1,ar,ut h1]
  ·have e1:beq (k%2) 1=false:=by
    cases hb:beq (k%2) 1
    ·rfl
    ·exact un (cP hb) h1
   rw[e1,az,v6 h1]
def Li{α:Type}(x:Option α)(f k:Nat):
 Tr.lone x (f+1) k=if k=0 then .node x .nil .nil else if k%2=1 then .node none (Tr.lone x f ((k-1)/2)) .nil else .node none .nil (Tr.lone x f ((k-1)/2)):=by
 have e:Tr.lone x (f+1) k=cond (beq k 0) (.node x .nil .nil) (cond (beq (k%2) 1) (.node none (Tr.lone x f ((k-1)/2)) .nil) (.node none .nil (Tr.lone x f ((k-1)/2)))):=by
  rw[<-KJ,<-KJ];rfl
 rw[e];by_cases h0:k=0
 ·simp[h0]
 ·have e0:beq k 0=false:=by cases k<;>simp_all [beq]
  rw[e0,az,v6 h0];by_cases h1:k%2=1
  ·have e1:beq (k%2) 1=true:=Mo h1;rw[e1,ar,ut h1]
  ·have e1:beq (k%2) 1=false:=by
    cases hb:beq (k%2) 1
    ·rfl
    ·exact un (cP hb) h1
   rw[e1,az,v6 h1]
def Oo{α:Type}(v:Option α)(l r:Tr α)(k:Nat)(x:Option α):
 (Tr.node v l r).put k x=if k=0 then .node x l r else if k%2=1 then .node v (l.put ((k-1)/2) x) r else .node v l (r.put ((k-1)/2) x):=by
 have e:(Tr.node v l r).put k x=cond (beq k 0) (.node x l r) (cond (beq (k%2) 1) (.node v (l.put ((k-1)/2) x) r) (.node v l (r.put ((k-1)/2) x))):=by
  rw[<-KJ,<-KJ];rfl
 rw[e];by_cases h0:k=0
 ·simp[h0]
 ·have e0:beq k 0=false:=by cases k<;>simp_all [beq]
  rw[e0,az,v6 h0];by_cases h1:k%2=1
  ·have e1:beq (k%2) 1=true:=Mo h1;rw[e1,ar,ut h1]
  ·have e1:beq (k%2) 1=false:=by
    cases hb:beq (k%2) 1
    ·rfl
    ·exact un (cP hb) h1
   rw[e1,az,v6 h1]
def yK{α:Type}(x:Option α):∀(f k j:Nat),k<f->(Tr.lone x f k).get j=if j=k then x else none
 | 0,k,j,h=>by omega
 | f+1,k,j,h=>by
  rw[Li];by_cases h0:k=0
  ·subst h0;rw[ut rfl,jF];simp only[get_nil];by_cases hj:j=0<;>simp[hj]
  ·rw[v6 h0];by_cases h1:k%2=1
   ·rw[ut h1,jF,yK x f _ _ i5];simp only[get_nil];by_cases hj:j=0
    ·rw[ut hj,v6 i5]
    ·rw[v6 hj];by_cases hj1:j%2=1
     ·rw[ut hj1];by_cases e:j=k
      ·subst e;simp
      ·rw[v6 i5,v6 e]
     ·rw[v6 hj1,v6 i5]
   ·rw[v6 h1,jF,yK x f _ _ i5];simp only[get_nil];by_cases hj:j=0
    ·rw[ut hj,v6 i5]
    ·rw[v6 hj];by_cases hj1:j%2=1
     ·rw[ut hj1,v6 i5]
     ·rw[v6 hj1];by_cases e:j=k
      ·subst e;simp
      ·rw[v6 i5,v6 e]
def dw{α:Type}(t:Tr α)(k j:Nat)(x:Option α):(t.put k x).get j=if j=k then x else t.get j:=by
 induction t generalizing k j with
 | nil=>
  have e:(Tr.nil:Tr α).put k x=Tr.lone x (k+1) k:=rfl;rw[e,yK x _ _ _ i5,get_nil]
 | node v l r il ir=>
  rw[Oo];by_cases h0:k=0
  ·subst h0;rw[ut rfl,jF,jF];by_cases hj:j=0<;>simp[hj]
  ·rw[v6 h0];by_cases h1:k%2=1
   ·rw[ut h1,jF,jF,il];by_cases hj:j=0
    ·simp only[hj,if_true];rw[v6 i5]
    ·simp only[hj,if_false];by_cases hj1:j%2=1
     ·simp only[hj1,if_true];by_cases e:j=k
      ·simp[e]
      ·rw[v6 i5,v6 e]
     ·simp only[hj1,if_false];rw[v6 i5]
   ·rw[v6 h1,jF,jF,ir];by_cases hj:j=0
    ·simp only[hj,if_true];rw[v6 i5]
    ·simp only[hj,if_false];by_cases hj1:j%2=1
     ·simp only[hj1,if_true];rw[v6 i5]
     ·simp only[hj1,if_false];by_cases e:j=k
      ·simp[e]
      ·rw[v6 i5,v6 e]
def cV{α:Type}(t:Tr α)(k:Nat)(x:Option α):(t.put k x).get k=x:=by rw[dw,ut rfl]
def bp{α:Type}(t:Tr α){k j:Nat}(x:Option α)(h:j≠k):(t.put k x).get j=t.get j:=by rw[dw,v6 h]
def aG{α:Type}{c:Bool}{x:Option α}{y:α}(h:cond c x none=some y):c=true/\x=some y:=by
 cases c
 ·simp at h
 ·exact⟨rfl,h⟩
def gZ{a b:Nat}(h:beq a b=false):a≠b:=λe=>by subst e;simp at h
def xe{a b:Nat}(h:ble a b=false):b<a:=by
 apply Nat.lt_of_not_le;intro e;rw[eY e] at h;simp at h
def Jv{a b:Nat}(h:blt a b=false):b<=a:=by
 have:=xe h;omega
def gx(a b:Int):sF a b=decide (a<=b):=by
 unfold sF
 cases h:b-a with
 | ofNat n=>
  have:a<=b:=by have:=Int.natCast_nonneg n;simp only[Int.ofNat_eq_natCast] at h;omega
  simp[this]
 | negSucc n=>
  have:¬a<=b:=by have:=Int.negSucc_lt_zero n;omega
  simp[this]
def sW(a b:Int):PK a b=(a==b):=by
 unfold PK;rw[gx,gx];by_cases h:a=b
 ·subst h;simp
 ·have:(a==b)=false:=by simpa using h
  rw[this];by_cases h1:a<=b
  ·have:¬b<=a:=by omega
   simp[h1,this]
  ·simp[h1]
def xl(a b:IntKind):AG a b=true↔a=b:=by cases a<;>cases b<;>simp[AG]
def gX(k:IntKind)(n:Int):dP k n=k.wrap n:=by
 unfold dP;cases hc:sF (NK k) n&&sF n (Nz k)
 ·rfl
 ·rw[ar];simp only[aa,gx,wp] at hc;obtain⟨h1,h2⟩:=hc;unfold IntKind.wrap;cases k<;>simp only[NK,Nz,IntKind.bits,IntKind.signed] at h1 h2 ⊢<;>simp<;>omega
def xh:∀a b:List Nat,uC a b=decide (a=b)
 | [],[]=>by simp[uC]
 | [],b::y=>by simp[uC]
 | a::x,[]=>by simp[uC]
 | a::x,b::y=>by
  simp only[uC,xh x y,m6];cases h:beq a b
  ·simp[gZ h]
  ·simp[cP h]
structure sE where
 b:Nat
 d:Nat
 r:Nat
abbrev Sg:=Nat->Option sE
inductive V (σ:Sg):AV->Value->Prop
 | bool (b):V σ (.bool b) (.bool b)
 | int (k n):V σ (.int k n) (.int k n)
 | str {l:List Nat} {s:ByteArray} (h:s.data.toList.map (·.toNat)=l):V σ (.str l) (.string s)
 | Si:V σ (.ptr none) (.pointer none)
 | ptr {id off:Nat} {p:sE} (h:σ id=some p):V σ (.ptr (some (id,off))) (.pointer (some ⟨p.b,p.d+off,none⟩))
 | gT {l e:Nat} (hl:l=0):V σ (.slice none l e (some 0)) (.slice none 0 0)
 | slice {id off len es:Nat} {cap:Option Nat} {a:Addr} {p:sE} {c:Nat} (h:σ id=some p) (hl:len<=c) (hr:off+c*es<=p.r) (hc:∀x,cap=some x->x=c)
  (ha:a=⟨p.b,p.d+off,none⟩\/c=0):V σ (.slice (some (id,off)) len es cap) (.slice (some a) len c)
 | R6:V σ (.map none) (.map none)
 | map {id:Nat} {p:sE} (h:σ id=some p):V σ (.map (some id)) (.map (some p.b))
 | fn {f:Fn} {fs cs:List AV} {fs' cs':Array Value} (hf:∀l,f≠.yield l) (h1:fs.length=fs'.size) (h2:∀(i:Nat) (a:AV) (v:Value),fs[i]?=some a->fs'[i]?=some v->V σ a v)
  (h3:cs.length=cs'.size) (h4:∀(i:Nat) (a:AV) (v:Value),cs[i]?=some a->cs'[i]?=some v->V σ a v):V σ (.fn f fs cs) (.func f fs' cs')
 | yield {id:Nat} {p:sE} (h:σ id=some p):V σ (.fn (.yield id) [] []) (.func (.yield p.b) #[] #[])
 | eb:V σ .eb .nilFunc
 | iface {t:TypeId} {a:AV} {v:Value} (h:V σ a v):V σ (.iface t a) (.iface t v)
 | wJ:V σ .wJ .nilIface
 | any {v:Value} (h:∀vs,v≠.agg vs):V σ .any v
 | agg {cs:List AV} {vs:Array Value} (h1:cs.length=vs.size) (h2:∀(i:Nat) (a:AV) (v:Value),cs[i]?=some a->vs[i]?=some v->V σ a v):V σ (.agg cs) (.agg vs)
 | cm {cs:List AV} {vs:Array Value} (h1:cs.length=vs.size) (h2:∀(i:Nat) (a:AV) (v:Value),cs[i]?=some a->vs[i]?=some v->V σ a v):V σ (.cm cs) (.tuple vs)
def VL(σ:Sg)(cs:List AV)(vs:List Value):Prop:=cs.length=vs.length/\∀(i:Nat) (a:AV) (v:Value),cs[i]?=some a->vs[i]?=some v->V σ a v
def V.mono{σ σ':Sg}(hle:∀id p,σ id=some p->σ' id=some p){a:AV}{v:Value}(h:V σ a v):V σ' a v:=by
 induction h with
 | bool b=>exact .bool b
 | int k n=>exact .int k n
 | str h=>exact .str h
 | Si=>exact .Si
 | ptr h=>exact .ptr (hle _ _ h)
 | gT h=>exact .gT h
 | slice h hl hr hc ha=>exact .slice (hle _ _ h) hl hr hc ha
 | R6=>exact .R6
 | map h=>exact .map (hle _ _ h)
 | fn hf h1 h2 h3 h4 ih2 ih4=>exact .fn hf h1 (λi a v x y=>ih2 i a v x y) h3 (λi a v x y=>ih4 i a v x y)
 | yield h=>exact .yield (hle _ _ h)
 | eb=>exact .eb
 | iface h ih=>exact .iface ih
 | wJ=>exact .wJ
 | any h=>exact .any h
 | agg h1 h2 ih=>exact .agg h1 (λi a v x y=>ih i a v x y)
 | cm h1 h2 ih=>exact .cm h1 (λi a v x y=>ih i a v x y)
def VL.mono{σ σ':Sg}(hle:∀id p,σ id=some p->σ' id=some p){a:List AV}{v:List Value}(h:VL σ a v):VL σ' a v:=
 ⟨h.1,λi a v x y=>(h.2 i a v x y).mono hle⟩
def VL.nil{σ:Sg}:VL σ [] []:=⟨rfl,λi a v h _=>by simp at h⟩
def VL.cons{σ:Sg}{a:AV}{v:Value}{aS:List AV}{vs:List Value}(h:V σ a v)(hs:VL σ aS vs):VL σ (a::aS) (v::vs):=by
 refine⟨by simp[hs.1],?_⟩;intro i x y hx hy
 cases i with
 | zero=>simp at hx hy;subst hx;subst hy;exact h
 | succ i=>simp at hx hy;exact hs.2 i x y hx hy
def VL.of_cons{σ:Sg}{a:AV}{v:Value}{aS:List AV}{vs:List Value}(h:VL σ (a::aS) (v::vs)):V σ a v/\VL σ aS vs:=
 ⟨h.2 0 a v gt gt,⟨by have:=h.1;simpa using this,λi x y hx hy=>h.2 (i+1) x y (by simpa using hx) (by simpa using hy)⟩⟩
def VL.dA{σ:Sg}{a:AV}{aS:List AV}{l:List Value}(h:VL σ (a::aS) l):∃v vs,l=v::vs/\V σ a v/\VL σ aS vs:=by
 cases l with
 | nil=>have:=h.1;simp at this
 | cons v vs=>exact⟨v,vs,rfl,h.of_cons.1,h.of_cons.2⟩
def VL.pw{σ:Sg}{l:List Value}(h:VL σ [] l):l=[]:=by
 have:=h.1;cases l with
 | nil=>rfl
 | cons v vs=>simp at this
def VL.get{σ:Sg}{aS:List AV}{vs:List Value}(h:VL σ aS vs){i:Nat}{a:AV}(ha:aS[i]?=some a):∃v,vs[i]?=some v/\V σ a v:=by
 have hi:i<aS.length:=by
  rcases aR i aS.length with h | h
  ·exact h
  ·simp[ad h] at ha
 have hv:i<vs.length:=h.1▸hi;exact⟨vs[i],li hv,h.2 i a _ ha (li hv)⟩
def VL.append{σ:Sg}{aS bs:List AV}{vs ws:List Value}(h:VL σ aS vs)(k:VL σ bs ws):VL σ (aS++bs) (vs++ws):=by
 refine⟨by simp[h.1,k.1],?_⟩;intro i x y hx hy;rw[ap] at hx hy;have e:=h.1;by_cases hi:i<aS.length
 ·rw[ut hi] at hx;rw[ut i5] at hy;exact h.2 i x y hx hy
 ·rw[v6 hi] at hx;rw[v6 i5,<-e] at hy;exact k.2 _ x y hx hy
def VL.drop{σ:Sg}{aS:List AV}{vs:List Value}(h:VL σ aS vs)(n:Nat):VL σ (aS.drop n) (vs.drop n):=
 ⟨by simp[h.1],λi x y hx hy=>h.2 (n+i) x y (by simpa [bb] using hx) (by simpa [bb] using hy)⟩
def VL.take{σ:Sg}{aS:List AV}{vs:List Value}(h:VL σ aS vs)(n:Nat):VL σ (aS.take n) (vs.take n):=by
 refine⟨by simp[h.1],?_⟩;intro i x y hx hy;rw[am] at hx hy;by_cases hi:i<n
 ·rw[ut hi] at hx hy;exact h.2 i x y hx hy
 ·rw[v6 hi] at hx;simp at hx
def V.nT{σ:Sg}{cs:List AV}{v:Value}(h:V σ (.agg cs) v):∃vs,v=.agg vs/\VL σ cs vs.toList:=by
 cases h with
 | agg h1 h2=>exact⟨_,rfl,by simpa using h1,λi a v x y=>h2 i a v x (by simpa using y)⟩
def V.H8{σ:Sg}{cs:List AV}{v:Value}(h:V σ (.cm cs) v):∃vs,v=.tuple vs/\VL σ cs vs.toList:=by
 cases h with
 | cm h1 h2=>exact⟨_,rfl,by simpa using h1,λi a v x y=>h2 i a v x (by simpa using y)⟩
def V.R7{σ:Sg}{cs:List AV}{vs:List Value}(h:VL σ cs vs):V σ (.agg cs) (.agg vs.toArray):=.agg (by simpa using h.1) (λi a v x y=>h.2 i a v x (by simpa using y))
def V.xq{σ:Sg}{cs:List AV}{vs:Array Value}(h:VL σ cs vs.toList):V σ (.agg cs) (.agg vs):=.agg (by simpa using h.1) (λi a v x y=>h.2 i a v x (by simpa using y))
def V.NQ{σ:Sg}{cs:List AV}{vs:List Value}(h:VL σ cs vs):V σ (.cm cs) (.tuple vs.toArray):=.cm (by simpa using h.1) (λi a v x y=>h.2 i a v x (by simpa using y))
def V.fV{σ:Sg}{cs:List AV}{vs:Array Value}(h:VL σ cs vs.toList):V σ (.cm cs) (.tuple vs):=.cm (by simpa using h.1) (λi a v x y=>h.2 i a v x (by simpa using y))
def V.lH{σ:Sg}:V σ lH undef:=.cm gt (λi a v h _=>by simp at h)
def V.cells{σ:Sg}{a:AV}{v:Value}(h:V σ a v):VL σ a.cells v.cells.toList:=by
 cases h with
 | agg h1 h2=>exact⟨by simpa [AV.cells,Value.cells] using h1,λi a v x y=>h2 i a v x (by simpa [Value.cells] using y)⟩
 | any h=>
  cases v with
  | agg vs=>exact un rfl (h vs)
  | _=>exact .cons (.any h) .nil
 | _=>exact .cons (by constructor<;>assumption) .nil
def V.jS{σ:Sg}{a:AV}{v:Value}(h:V σ a v)(ho:jS a=true):v.oneCell'=true:=by
 cases h<;>simp_all [Ev.jS,Value.oneCell']
def VL.jS{σ:Sg}{aS:List AV}{vs:List Value}(h:VL σ aS vs)(ho:aS.all Ev.jS=true):∀v∈vs,v.oneCell'=true:=by
 intro v hv;obtain⟨i,hi⟩:=List.mem_iff_getElem?.1 hv
 have hlt:i<vs.length:=by
  rcases aR i vs.length with h | h
  ·exact h
  ·simp[ad h] at hi
 have ha:aS[i]?=some (aS[i]'(by have:=h.1;omega)):=li _;exact(h.2 i _ v ha hi).jS (all_eq_true.1 ho _ (List.getElem_mem _))
def uG{n:Nat}{σ:Sg}(ih:∀v a,lL n v=some a->V σ a v):∀(l:List Value) (aS:List AV),l.mapM (lL n)=some aS->VL σ aS l
 | [],aS,h=>by simp at h;subst h;exact .nil
 | v::l,aS,h=>by
  rw[b0] at h
  cases h1:lL n v with
  | none=>simp[h1] at h
  | some a=>
   cases h2:l.mapM (lL n) with
   | none=>simp[h1,h2] at h
   | some bs=>simp[h1,h2] at h;subst h;exact .cons (ih v a h1) (uG ih l bs h2)
def Mx{σ:Sg}:∀(n:Nat) (v:Value) (a:AV),lL n v=some a->V σ a v:=by
 intro n
 induction n with
 | zero=>intro v a h;simp[lL] at h
 | succ n ih=>
  intro v a h;unfold lL at h;split at h
  all_goals first
   | (simp only[rc] at h;subst h;first | exact .bool _ | exact .int _ _ | exact .str rfl | exact .Si | exact .gT rfl | exact .R6 | exact .eb | exact .wJ)
   | skip
  ·rename_i cs
   cases h1:cs.toList.mapM (lL n) with
   | none=>simp[h1] at h
   | some aS=>simp[h1] at h;subst h;exact .xq (uG ih _ _ h1)
  ·rename_i cs
   cases h1:cs.toList.mapM (lL n) with
   | none=>simp[h1] at h
   | some aS=>simp[h1] at h;subst h;exact .fV (uG ih _ _ h1)
  ·rename_i t v
   cases h1:lL n v with
   | none=>simp[h1] at h
   | some aS=>simp[h1] at h;subst h;exact .iface (ih _ _ h1)
  ·simp at h
def ER(σ:Sg)(e:AV×AV×Nat)(m:MapEntry):Prop:=V σ e.1 m.key/\V σ e.2.1 m.val/\e.2.2=m.born
def TR(σ:Sg)(t:Tr AV)(n:Nat)(tmps:Array Value):Prop:=tmps.size=n/\∀i,V σ ((t.get i).getD lH) (tmps.getD i undef)
def j7(s:ByteArray):List Nat:=s.data.toList.map (·.toNat)
def OR(σ:Sg)(o:AO)(p:sE)(b:Option Obj):Prop:=match o with
 | .cells cs _=>∃c e,b=some (.cells c e (0,0))/\p.d+p.r<=c.size/\cs.length<=p.r/\∀(i:Nat) (a:AV),cs[i]?=some a->∃v,c[p.d+i]?=some v/\V σ a v
 | .ro cs=>∃c e f,b=some (.cells c e f)/\p.d+p.r<=c.size/\cs.length<=p.r/\∀(i:Nat) (a:AV),cs[i]?=some a->∃v,c[p.d+i]?=some v/\V σ a v
 | .map es ck=>∃es':Array MapEntry,b=some (.map es' ck)/\es.length=es'.size/\∀(i:Nat) (e:AV×AV×Nat) (m:MapEntry),es[i]?=some e->es'[i]?=some m->ER σ e m
 | .Kw s pos=>∃s',b=some (.stringIter s' pos)/\j7 s'=s/\p.d=0
 | .iT m since seen st=>∃m',b=some (.mapIter m' since seen.toArray st)/\p.d=0/\(match m with
  | none=>m'=none
  | some id=>∃q,σ id=some q/\m'=some q.b)
 | .loop st pend t n ps a bd d=>∃f tmps q,b=some (.loop { state:=st,pending:=pend,fn:=f,tmps,params:=ps,assign:=a,body:=bd,defers:=q.b })/\σ d=some q/\TR σ t n tmps
 | .mC tk=>b=some (.deferred (if tk then none else some []))
def TR.mono{σ σ':Sg}(hle:∀id p,σ id=some p->σ' id=some p){t:Tr AV}{n:Nat}{tmps:Array Value}(h:TR σ t n tmps):TR σ' t n tmps:=
 ⟨h.1,λi=>(h.2 i).mono hle⟩
def OR.mono{σ σ':Sg}(hle:∀id p,σ id=some p->σ' id=some p){o:AO}{p:sE}{b:Option Obj}(h:OR σ o p b):OR σ' o p b:=by
 cases o with
 | cells cs f=>obtain⟨c,e,h1,h2,h3,h4⟩:=h;exact⟨c,e,h1,h2,h3,λi a ha=>let ⟨v,hv,hV⟩:=h4 i a ha;⟨v,hv,hV.mono hle⟩⟩
 | ro cs=>obtain⟨c,e,f,h1,h2,h3,h4⟩:=h;exact⟨c,e,f,h1,h2,h3,λi a ha=>let ⟨v,hv,hV⟩:=h4 i a ha;⟨v,hv,hV.mono hle⟩⟩
 | map es ck=>obtain⟨es',h1,h2,h3⟩:=h;exact⟨es',h1,h2,λi e m he hm=>let ⟨a,b,c⟩:=h3 i e m he hm;⟨a.mono hle,b.mono hle,c⟩⟩
 | Kw s pos=>exact h
 | iT m since seen st=>
  obtain⟨m',h1,h0,h2⟩:=h;refine⟨m',h1,h0,?_⟩
  cases m with
  | none=>exact h2
  | some id=>obtain⟨q,hq,hm⟩:=h2;exact⟨q,hle _ _ hq,hm⟩
 | loop st pend t n ps a bd d=>obtain⟨f,tmps,q,h1,h2,h3⟩:=h;exact⟨f,tmps,q,h1,hle _ _ h2,h3.mono hle⟩
 | mC tk=>exact h
def OR.some{σ:Sg}{o:AO}{p:sE}{b:Option Obj}(h:OR σ o p b):b≠none:=by
 intro e;subst e;cases o<;>simp[OR] at h
def Mu(o o':AO):Prop:=(∃cs cs' f,o=.cells cs f/\o'=.cells cs' f)\/(∃cs cs',o=.ro cs/\o'=.ro cs')
def Mu.left{o:AO}{cs:List AV}{f:Nat}(h:Mu o (.cells cs f)):∃cs',o=.cells cs' f:=by
 rcases h with⟨a,b,c,e1,e2⟩ | ⟨a,b,e1,e2⟩
 ·cases e2;exact⟨_,e1⟩
 ·cases e2
structure HR (σ:Sg) (h:H) (w:World):Prop where
 obj:∀id o,h.aU.get id=some o->∃p,σ id=some p/\OR σ o p w.heap[p.b]?
 fresh:∀id,h.next<=id->σ id=none
 sep:∀i j o o' p q,i≠j->h.aU.get i=some o->h.aU.get j=some o'->σ i=some p->σ j=some q->p.b=q.b->Mu o o'
 bO:∀i cs f,h.aU.get i=some (.cells cs f)->f<h.next/\∃x y,h.dy.get f=some (x,y)/\(i=x\/i=y)
 CW:h.low<=h.next
def BJ{w:World}{b:Nat}(h:w.heap[b]?≠none):b<w.heap.size:=by
 rcases aR b w.heap.size with h' | h'
 ·exact h'
 ·simp[h'] at h
def HR.lt{σ:Sg}{h:H}{w:World}(hr:HR σ h w){id:Nat}{o:AO}{p:sE}(ho:h.aU.get id=some o)(hp:σ id=some p):p.b<w.heap.size:=by
 obtain⟨q,hq,hor⟩:=hr.obj id o ho;rw[hp] at hq;cases hq;exact BJ hor.some
def HR.Ve{σ:Sg}{h:H}{w:World}(hr:HR σ h w){id:Nat}{o:AO}(ho:h.aU.get id=some o):id<h.next:=by
 obtain⟨q,hq,_⟩:=hr.obj id o ho
 rcases aR id h.next with h' | h'
 ·exact h'
 ·rw[hr.fresh id h'] at hq;cases hq
def Pf(o:AO):Prop:=∀cs,o≠.ro cs
structure Ext (σ σ':Sg) (h h':H) (w w':World):Prop where
 le:∀id p,σ id=some p->σ' id=some p
 next:h.next<=h'.next
 size:w.heap.size<=w'.heap.size
 os:w'.os=w.os
 tape:w'.tape=w.tape
 output:w'.output=w.output
 SL:∀id o p,h'.aU.get id=some o->σ' id=some p->w.heap.size<=p.b\/∃i o' q,h.aU.get i=some o'/\σ i=some q/\q.b=p.b/\(Pf o->Pf o')
 frame:∀b,b<w.heap.size->(∀id o p,h.aU.get id=some o->Pf o->σ id=some p->p.b≠b)->w'.heap[b]?=w.heap[b]?
 low:h'.low<=h.low
 same:∀id,id<h'.low->id<h.next->h'.aU.get id=h.aU.get id
 mi:∀id,id<h.next->σ id=none->σ' id=none
 dy:∀id cs f,h'.aU.get id=some (.cells cs f)->h.next<=f\/∃i cs',h.aU.get i=some (.cells cs' f)
def Ext.refl(σ:Sg)(h:H)(w:World):Ext σ σ h h w w:=
 ⟨λ_ _ h=>h,ac _,ac _,rfl,rfl,rfl,λid o p ho hp=>.inr ⟨id,o,p,ho,hp,rfl,λh=>h⟩,λ_ _ _=>rfl,ac _,λ_ _ _=>rfl,λ_ _ h=>h,λid cs _ ho=>.inr ⟨id,cs,ho⟩⟩
def Ext.trans{σ σ' σ'':Sg}{h h' h'':H}{w w' w'':World}(a:Ext σ σ' h h' w w')(b:Ext σ' σ'' h' h'' w' w''):Ext σ σ'' h h'' w w'' where
 le:=λid p hp=>b.le _ _ (a.le _ _ hp)
 next:=ay a.next b.next
 size:=ay a.size b.size
 os:=b.os.trans a.os
 tape:=b.tape.trans a.tape
 output:=b.output.trans a.output
 SL:=by
  intro id o p ho hp
  rcases b.SL id o p ho hp with h1 | ⟨i,o',q,h1,h2,h3,g3⟩
  ·exact .inl (ay a.size h1)
  ·rcases a.SL i o' q h1 h2 with h4 | ⟨j,o'',r,h4,h5,h6,g6⟩
   ·exact .inl i5
   ·exact .inr ⟨j,o'',r,h4,h5,by omega,λh=>g6 (g3 h)⟩
 frame:=by
  intro bk hb hn;rw[b.frame bk (al hb a.size),a.frame bk hb hn];intro id o p ho hw hp e
  rcases a.SL id o p ho hp with h1 | ⟨i,o',q,h1,h2,h3,g3⟩
  ·omega
  ·exact hn i o' q h1 (g3 hw) h2 i5
 low:=ay b.low a.low
 same:=by
  intro id h1 h2;rw[b.same id h1 (al h2 a.next),a.same id (al h1 b.low) h2]
 mi:=λid h1 h2=>b.mi id (al h1 a.next) (a.mi id h1 h2)
 dy:=by
  intro id cs f ho
  rcases b.dy id cs f ho with h1 | ⟨i,cs',h1⟩
  ·exact .inl (ay a.next h1)
  ·exact a.dy i cs' f h1
def HR.congr{σ:Sg}{h:H}{w w':World}(hr:HR σ h w)(e:w'.heap=w.heap):HR σ h w':=
 ⟨λid o ho=>by rw[e];exact hr.obj id o ho,hr.fresh,hr.sep,hr.bO,hr.CW⟩
def Ext.of_eq{σ:Sg}{h:H}{w w':World}(e:w'.heap=w.heap)(e1:w'.os=w.os)(e2:w'.tape=w.tape)(e3:w'.output=w.output):Ext σ σ h h w w':=
 ⟨λ_ _ h=>h,ac _,by rw[e];exact ac _,e1,e2,e3,λid o p ho hp=>.inr ⟨id,o,p,ho,hp,rfl,λh=>h⟩,λ_ _ _=>by rw[e],ac _,λ_ _ _=>rfl,λ_ _ h=>h,λid cs _ ho=>.inr ⟨id,cs,ho⟩⟩
def gF(b o n:Nat):(⟨b,o,none⟩:Addr).add n=⟨b,o+n,none⟩:=by
 unfold Addr.add;split
 ·rename_i h;simp[h]
 ·rfl
def cell_of{w:World}{b o:Nat}{c:Array Value}{e:TypeId}{f:Nat×Nat}(h:w.heap[b]?=some (.cells c e f)):w.cell? ⟨b,o,none⟩=c[o]?:=by
 simp[World.cell?,h]
def uS{w:World}{b o:Nat}{c:Array Value}{e:TypeId}(h:w.heap[b]?=some (.cells c e (0,0))):w.frozen? ⟨b,o,none⟩=false:=by
 simp[World.frozen?,h]
def HR.cells{σ:Sg}{h:H}{w:World}(hr:HR σ h w){id:Nat}{cs:List AV}{f:Nat}(ho:h.aU.get id=some (.cells cs f)):
 ∃p c e,σ id=some p/\w.heap[p.b]?=some (.cells c e (0,0))/\p.d+p.r<=c.size/\cs.length<=p.r/\∀(i:Nat) (a:AV),cs[i]?=some a->∃v,c[p.d+i]?=some v/\V σ a v:=by
 obtain⟨p,hp,c,e,h1,h2,h3,h4⟩:=hr.obj id _ ho;exact⟨p,c,e,hp,h1,h2,h3,h4⟩
def Q2(o:AO)(cs:List AV):Prop:=(∃f,o=.cells cs f)\/o=.ro cs
def HR.row{σ:Sg}{h:H}{w:World}(hr:HR σ h w){id:Nat}{o:AO}{cs:List AV}(ho:h.aU.get id=some o)(hi:Q2 o cs):
 ∃p c e f,σ id=some p/\w.heap[p.b]?=some (.cells c e f)/\p.d+p.r<=c.size/\cs.length<=p.r/\∀(i:Nat) (a:AV),cs[i]?=some a->∃v,c[p.d+i]?=some v/\V σ a v:=by
 obtain⟨p,hp,hor⟩:=hr.obj id _ ho
 rcases hi with⟨f,rfl⟩ | rfl
 ·obtain⟨c,e,h1,h2,h3,h4⟩:=hor;exact⟨p,c,e,_,hp,h1,h2,h3,h4⟩
 ·obtain⟨c,e,f,h1,h2,h3,h4⟩:=hor;exact⟨p,c,e,f,hp,h1,h2,h3,h4⟩
def H.MU{h:H}{id off n:Nat}{cs:List AV}(hc:h.chunk id off n=some cs):
 ∃o bs,h.aU.get id=some o/\Q2 o bs/\off+n<=bs.length/\cs=(bs.drop off).take n:=by
 unfold H.chunk at hc;split at hc
 ·rename_i bs f ho;obtain⟨h1,h2⟩:=aG hc;simp only[rc] at h2;exact⟨_,bs,ho,.inl ⟨f,rfl⟩,jg h1,h2.symm⟩
 ·rename_i bs ho;obtain⟨h1,h2⟩:=aG hc;simp only[rc] at h2;exact⟨_,bs,ho,.inr rfl,jg h1,h2.symm⟩
 ·simp at hc
def HR.chunk{σ:Sg}{h:H}{w:World}(hr:HR σ h w){id off n:Nat}{cs:List AV}{p:sE}(hc:h.chunk id off n=some cs)(hp:σ id=some p):
 ∃vs,VL σ cs vs/\cs.length=n/\∀(j:Nat) (v:Value),vs[j]?=some v->w.cell? ⟨p.b,p.d+off+j,none⟩=some v:=by
 obtain⟨o,bs,ho,hi,hle,rfl⟩:=H.MU hc;obtain⟨q,c,e,f,hq,h1,h2,h3,h4⟩:=hr.row ho hi;rw[hp] at hq;cases hq
 have hlen:((bs.drop off).take n).length=n:=by simp;omega
 have hsz:∀j,j<n->p.d+(off+j)<c.size:=λj hj=>by omega
 refine⟨(List.range n).map λj=>(c[p.d+(off+j)]?).getD undef,⟨by simp;omega,?_⟩,hlen,?_⟩
 ·intro i a v ha hv
  have hi:i<n:=by
   rcases aR i n with h | h
   ·exact h
   ·rw[ad i5] at ha;simp at ha
  rw[am,ut hi,bb] at ha;obtain⟨u,hu,hV⟩:=h4 _ _ ha;rw[bh,bt hi] at hv;simp only[m7,rc] at hv;rw[<-hv,hu];exact hV
 ·intro j v hv
  have hj:j<n:=by
   rcases aR j n with h | h
   ·exact h
   ·rw[ad (by simp;omega)] at hv;simp at hv
  rw[bh,bt hj] at hv;simp only[m7,rc] at hv;rw[cell_of h1,show p.d+off+j=p.d+(off+j) by omega,a0 (hsz j hj)];rw[a0 (hsz j hj)] at hv;simpa using hv
def nU{P:Program}{w:World}{b o:Nat}{vs:List Value}(h:∀(j:Nat) (v:Value),vs[j]?=some v->w.cell? ⟨b,o+j,none⟩=some v):
 (loadCells ⟨b,o,none⟩ vs.length).run P w=.ok vs.toArray w:=
 run_loadCells_list w _ vs λj v hv=>by rw[gF];exact h j v hv
def cW{P:Program}{w:World}{t:TypeId}{i:TypeInfo}(h:P.info? t=some i):(typeInfo t).run P w=.ok i w:=by
 simp[typeInfo,h]
def aN{P:Program}{w:World}{t:TypeId}{d:TypeDesc}(h:P.underlying t=some d):(Go.underlying t).run P w=.ok d w:=by
 simp[Go.underlying,h]
def bM{P:Program}{w:World}{t n:Nat}(h:cw P t=some n):(sizeOf t).run P w=.ok n w:=by
 unfold cw at h
 cases hi:P.info? t with
 | none=>simp[hi] at h
 | some i=>simp[hi] at h;subst h;simp[sizeOf,cW hi]
def mM{P:Program}{w:World}{t:Nat}{b:Bool}(h:qq P t=some b):(isAgg t).run P w=.ok b w:=by
 unfold qq at h
 cases hi:P.underlying t with
 | none=>simp[hi] at h
 | some d=>
  simp only[hi,m7,rc] at h;subst h;simp only[isAgg,pp,aN hi,qr];cases d<;>simp
def iB{P:Program}{w:World}{σ:Sg}{t:Nat}{z:AV}(h:de P t=some z):∃v,(zeroValue t).run P w=.ok v w/\V σ z v/\∃i,P.info? t=some i/\i.zero=some v:=by
 unfold de at h
 cases hi:P.info? t with
 | none=>simp[hi] at h
 | some i=>
  simp only[hi,m8] at h
  cases hz:i.zero with
  | none=>simp[hz] at h
  | some v=>
   simp only[hz,m8] at h;exact⟨v,by simp[zeroValue,cW hi,hz],Mx _ _ _ h,i,rfl,hz⟩
def HR.Fu{P:Program}{σ:Sg}{h:H}{w:World}(hr:HR σ h w){t id off:Nat}{a:AV}{p:sE}(hl:h.load P t id off=some a)(hp:σ id=some p):
 ∃v,(loadVar t ⟨p.b,p.d+off,none⟩).run P w=.ok v w/\V σ a v:=by
 unfold H.load at hl;split at hl
 ·rename_i hag
  cases hn:cw P t with
  | none=>simp[hn] at hl
  | some n=>
   simp only[hn,m8] at hl
   cases hc:h.chunk id off n with
   | none=>simp[hc] at hl
   | some cs=>
    simp only[hc,m7,rc] at hl;subst hl;obtain⟨vs,hvl,hlen,hcell⟩:=hr.chunk hc hp;refine⟨.agg vs.toArray,?_,.R7 hvl⟩
    have hl:vs.length=n:=by rw[<-hvl.1];exact hlen
    simp only[loadVar,pp,mM hag,qr,if_true,bM hn];rw[<-hl,nU hcell];simp
 ·rename_i hag;split at hl
  ·rename_i cs f ho;obtain⟨q,c,e,hq,h1,h2,h3,h4⟩:=hr.cells ho;rw[hp] at hq;cases hq;obtain⟨v,hv,hV⟩:=h4 _ _ hl;refine⟨v,?_,hV⟩
   have hcell:w.cell? ⟨p.b,p.d+off,none⟩=some v:=by rw[cell_of h1];exact hv
   simp[loadVar,mM hag,hcell]
  ·rename_i cs ho;obtain⟨q,c,e,f,hq,h1,h2,h3,h4⟩:=hr.row ho (.inr rfl);rw[hp] at hq;cases hq;obtain⟨v,hv,hV⟩:=h4 _ _ hl;refine⟨v,?_,hV⟩
   have hcell:w.cell? ⟨p.b,p.d+off,none⟩=some v:=by rw[cell_of h1];exact hv
   simp[loadVar,mM hag,hcell]
  ·simp at hl
 ·simp at hl
def jo{P:Program}{σ:Sg}{w:World}{t off:Nat}{cs:List AV}{vs:Array Value}{a:AV}(hvs:VL σ cs vs.toList)(hl:eV P t cs off=some a):
 ∃v,(part t vs off).run P w=.ok v w/\V σ a v:=by
 unfold eV at hl;split at hl
 ·rename_i hag
  cases hn:cw P t with
  | none=>simp[hn] at hl
  | some n=>
   simp only[hn,m8] at hl;obtain⟨hle,he⟩:=aG hl;simp only[rc] at he;subst he;refine⟨.agg (vs.extract off (off+n)),?_,.xq ?_⟩
   ·simp[part,mM hag,bM hn]
   ·have:(vs.extract off (off+n)).toList=(vs.toList.drop off).take n:=by simp
    rw[this];exact(hvs.drop off).take n
 ·rename_i hag;obtain⟨v,hv,hV⟩:=hvs.get hl;refine⟨v,?_,hV⟩
  have hv':vs[off]?=some v:=by simpa using hv
  simp[part,mM hag,hv']
 ·simp at hl
def dK(a b:Nat):gQ a b<=a/\gQ a b<=b:=by
 unfold gQ;cases h:ble a b
 ·have:=xe h;simp only[az];omega
 ·have:=jg h;simp only[ar];omega
def HR.update{σ:Sg}{h h':H}{w w':World}(hr:HR σ h w){id:Nat}{p:sE}{o o':AO}(ho:h.aU.get id=some o)(hp:σ id=some p)
 (hg:∀j x,h'.aU.get j=some x->(j=id/\x=o')\/(j≠id/\h.aU.get j=some x/\∀q,σ j=some q->q.b≠p.b))
 (hnext:h'.next=h.next) (hfam:∀i cs f,h'.aU.get i=some (.cells cs f)->f<h.next/\∃x y,h'.dy.get f=some (x,y)/\(i=x\/i=y))
 (hor:OR σ o' p w'.heap[p.b]?) (hw:∀b,b≠p.b->w'.heap[b]?=w.heap[b]?) (hs:w'.heap.size=w.heap.size) (e1:w'.os=w.os) (e2:w'.tape=w.tape) (e3:w'.output=w.output)
 (hlow:h'.low<=h.low) (hsame:∀j,j<h'.low->j<h.next->h'.aU.get j=h.aU.get j)
 (hof:∀cs f,o'=.cells cs f->∃cs',o=.cells cs' f:=by first | (intro cs f e;cases e;done) | (intro cs f e;cases e;exact⟨_,rfl⟩))
 (hown:Pf o:=by (intro cs e;cases e)):HR σ h' w'/\Ext σ σ h h' w w':=by
 refine⟨⟨?_,?_,?_,?_,?_⟩,⟨λ_ _ h=>h,by omega,by omega,e1,e2,e3,?_,?_,hlow,hsame,λ_ _ h=>h,?_⟩⟩
 ·intro j x hx
  rcases hg j x hx with⟨rfl,rfl⟩ | ⟨_,h2,h3⟩
  ·exact⟨p,hp,hor⟩
  ·obtain⟨q,hq,hq2⟩:=hr.obj j x h2;exact⟨q,hq,by rw[hw _ (h3 q hq)];exact hq2⟩
 ·intro j hj;exact hr.fresh j i5
 ·intro i j x y q1 q2 hij hx hy h1 h2 hb
  rcases hg i x hx with⟨rfl,rfl⟩ | ⟨_,a2,a3⟩
  ·rcases hg j y hy with⟨rfl,rfl⟩ | ⟨_,b2,b3⟩
   ·exact un rfl hij
   ·rw[hp] at h1;cases h1;exact un hb.symm (b3 _ h2)
  ·rcases hg j y hy with⟨rfl,rfl⟩ | ⟨_,b2,b3⟩
   ·rw[hp] at h2;cases h2;exact un hb (a3 _ h1)
   ·exact hr.sep i j x y q1 q2 hij a2 b2 h1 h2 hb
 ·intro i cs f hi;rw[hnext];exact hfam i cs f hi
 ·have:=hr.CW;omega
 ·intro j x q hx hq
  rcases hg j x hx with⟨rfl,rfl⟩ | ⟨_,h2,_⟩
  ·exact .inr ⟨j,o,q,ho,hq,rfl,λ_=>hown⟩
  ·exact .inr ⟨j,x,q,h2,hq,rfl,λh=>h⟩
 ·intro b _ hn;exact hw b λe=>hn id o p ho hown hp e.symm
 ·intro j cs f hj
  rcases hg j _ hj with⟨rfl,e⟩ | ⟨_,h2,_⟩
  ·obtain⟨cs',e'⟩:=hof cs f e.symm;exact .inr ⟨j,cs',e'▸ho⟩
  ·exact .inr ⟨j,cs,h2⟩
def KE{h:H}{id bO x y:Nat}(hf:h.dy.get bO=some (x,y))(j:Nat):
 (h.alone id bO).aU.get j=if (j=x\/j=y)/\j≠id/\(id=x\/id=y) then none else if (j=x\/j=y)/\j≠id then (h.alone id bO).aU.get j else h.aU.get j:=by
 unfold H.alone;rw[hf];simp only;cases hx:beq x id<;>cases hy:beq y id<;>simp only[Bool.and_true,Bool.and_false,ar,az]
 ·have:=gZ hx;have:=gZ hy;rw[dw,dw];by_cases h1:j=y<;>by_cases h2:j=x<;>simp[h1,h2]<;>omega
 ·have:=gZ hx;have:=cP hy;rw[dw];by_cases h1:j=x
  ·subst h1;simp;omega
  ·rw[v6 h1];by_cases h2:j=y<;>simp[h1,h2]<;>omega
 ·have:=cP hx;have:=gZ hy;rw[dw];by_cases h1:j=y
  ·subst h1;simp;omega
  ·rw[v6 h1];by_cases h2:j=x<;>simp[h1,h2]<;>omega
 ·have:=cP hx;have:=cP hy;subst x;subst y;by_cases h1:j=id<;>simp[h1]
def ng{σ:Sg}{h:H}{w:World}(hr:HR σ h w){id bO:Nat}{cs:List AV}(ho:h.aU.get id=some (.cells cs bO)):
 (h.alone id bO).aU.get id=some (.cells cs bO)/\
 (∀j o,(h.alone id bO).aU.get j=some o->h.aU.get j=some o)/\
 (∀j cs',(h.alone id bO).aU.get j=some (.cells cs' bO)->j=id)/\
 (h.alone id bO).next=h.next/\
 (∃x y,(h.alone id bO).dy.get bO=some (x,y)/\(id=x\/id=y))/\
 (∀f,f≠bO->(h.alone id bO).dy.get f=h.dy.get f)/\
 (h.alone id bO).low<=h.low/\
 (∀j,j<(h.alone id bO).low->(h.alone id bO).aU.get j=h.aU.get j):=by
 obtain⟨_,x,y,hf,hxy⟩:=hr.bO id cs bO ho
 have hget:∀j,(h.alone id bO).aU.get j=if (j=x\/j=y)/\j≠id then none else h.aU.get j:=by
  intro j;rw[KE hf j];by_cases hc:(j=x\/j=y)/\j≠id
  ·rw[ut ⟨hc.1,hc.2,hxy⟩,ut hc]
  ·rw[v6 (λh=>hc ⟨h.1,h.2.1⟩),v6 hc,v6 hc]
 refine⟨by rw[hget,v6 gt,ho],?_,?_,?_,?_,?_,?_,?_⟩
 ·intro j o hj;rw[hget] at hj;split at hj
  ·cases hj
  ·exact hj
 ·intro j cs' hj;rw[hget] at hj;split at hj
  ·cases hj
  ·rename_i hn;obtain⟨_,x',y',hf',hj'⟩:=hr.bO j cs' bO hj;rw[hf] at hf';cases hf';apply Classical.byContradiction;intro hne;exact hn ⟨hj',hne⟩
 ·unfold H.alone;rw[hf];simp only;cases (beq x id&&beq y id)<;>rfl
 ·unfold H.alone;rw[hf];simp only;cases hb:(beq x id&&beq y id)
  ·exact⟨id,id,by rw[az];exact cV _ _ _,.inl rfl⟩
  ·exact⟨x,y,hf,hxy⟩
 ·intro f hne;unfold H.alone;rw[hf];simp only;cases (beq x id&&beq y id)
  ·rw[az];exact bp _ _ hne
  ·rfl
 ·unfold H.alone;rw[hf];simp only;cases (beq x id&&beq y id)
  ·rw[az];exact(dK _ _).1
  ·exact ac _
 ·intro j hj;rw[hget];split
  ·rename_i hc
   have hlt:j<gQ x y:=by
    unfold H.alone at hj;rw[hf] at hj;simp only at hj;cases hb:(beq x id&&beq y id)
    ·rw[hb,az] at hj;exact al hj (dK _ _).2
    ·simp only[aa] at hb;have:=cP hb.1;have:=cP hb.2;omega
   have:=dK x y;omega
  ·rfl
def World.AR{w:World}{b o:Nat}{c:Array Value}{e:TypeId}{f:Nat×Nat}(h:w.heap[b]?=some (.cells c e f))(v:Value):
 (w.setCell ⟨b,o,none⟩ v).heap[b]?=some (.cells (c.setIfInBounds o v) e f):=by
 simp[World.setCell,bo,h]
def World.zk{w:World}{b k o:Nat}(v:Value)(hk:k≠b):(w.setCell ⟨b,o,none⟩ v).heap[k]?=w.heap[k]?:=by
 simp only[World.setCell,bo];rw[v6 (λh=>hk h.symm)]
def mN{P:Program}{b o:Nat}{e:TypeId}:∀(vs:List Value) (i:Nat) (w:World) (c:Array Value),w.heap[b]?=some (.cells c e (0,0))->o+i+vs.length<=c.size->(∀v∈vs,v.oneCell'=true)->
 ∃w' c',(storeCells ⟨b,o,none⟩ vs i).run P w=.ok () w'/\w'.heap[b]?=some (.cells c' e (0,0))/\c'.size=c.size/\
  (∀j:Nat,c'[j]?=if o+i<=j/\j<o+i+vs.length then vs[j-(o+i)]? else c[j]?)/\(∀k,k≠b->w'.heap[k]?=w.heap[k]?)/\
  w'.heap.size=w.heap.size/\w'.os=w.os/\w'.tape=w.tape/\w'.output=w.output
 | [],i,w,c,h,_,_=>⟨w,c,by simp[storeCells],h,rfl,λj=>by rw[v6 (by simp only[i7];omega)],λ_ _=>rfl,rfl,rfl,rfl,rfl⟩
 | v::vs,i,w,c,h,hlen,hone=>by
  simp only[jp] at hlen
  have hcell:w.cell? ⟨b,o+i,none⟩=some (c[o+i]' i5):=by rw[cell_of h];exact Array.getElem?_eq_getElem _
  have h1:(w.setCell ⟨b,o+i,none⟩ v).heap[b]?=some (.cells (c.setIfInBounds (o+i) v) e (0,0)):=World.AR h v;obtain⟨w',c',hrun,hw',hsz,hget,hoth,s1,s2,s3,s4⟩:=mN (P:=P) (o:=o) vs (i+1) (w.setCell ⟨b,o+i,none⟩ v) (c.setIfInBounds (o+i) v) h1 (by simp;omega) (λu hu=>hone u (by simp[hu]));refine⟨w',c',?_,hw',by simpa using hsz,?_,?_,?_,?_,?_,?_⟩
  ·simp only[storeCells,pp,gF];rw[run_store P w _ v .plain (hone v gt),hcell];simp only[uS h,Bool.false_eq_true,if_false,qr];exact hrun
  ·intro j;rw[hget];by_cases hj:o+(i+1)<=j/\j<o+(i+1)+vs.length
   ·rw[ut hj,ut (by simp;omega)];rw[show j-(o+i)=(j-(o+(i+1)))+1 by omega,List.getElem?_cons_succ]
   ·rw[v6 hj,Array.getElem?_setIfInBounds];by_cases hj2:o+i=j
    ·subst hj2;rw[ut rfl,ut i5,ut gt];simp
    ·rw[v6 hj2,v6 (by simp;omega)]
  ·intro k hk;rw[hoth k hk,World.zk _ hk]
  ·rw[s1];simp
  ·rw[s2];rfl
  ·rw[s3];rfl
  ·rw[s4];rfl
def lq{α:Type}(cs vs:List α)(off:Nat)(h:off+vs.length<=cs.length)(j:Nat):
 (cs.take off++(vs++cs.drop (off+vs.length)))[j]?=if off<=j/\j<off+vs.length then vs[j-off]? else cs[j]?:=by
 have h1:(cs.take off).length=off:=by simp;omega
 rw[ap,h1];by_cases ha:j<off
 ·rw[ut ha,v6 i5,am,ut ha]
 ·rw[v6 ha,ap];by_cases hb:j-off<vs.length
  ·rw[ut hb,ut i5]
  ·rw[v6 hb,v6 i5,bb]
   congr 1;omega
def HR.ry{P:Program}{σ:Sg}{h h':H}{w:World}(hr:HR σ h w){id off:Nat}{aS:List AV}{vs:List Value}{p:sE}(hs:h.store id off aS=some h')(hp:σ id=some p)(hv:VL σ aS vs):
 ∃w',(storeCells ⟨p.b,p.d+off,none⟩ vs).run P w=.ok () w'/\HR σ h' w'/\Ext σ σ h h' w w':=by
 unfold H.store at hs;split at hs
 ·rename_i cs bO ho;obtain⟨hc,he⟩:=aG hs;simp only[aa] at hc;obtain⟨hle,hone⟩:=hc;have hle:=jg hle;simp only[rc] at he;obtain⟨q,c,e,hq,h1,h2,h3,h4⟩:=hr.cells ho;rw[hp] at hq;cases hq;have hl:=hv.1;obtain⟨w',c',hrun,hw',hsz,hget,hoth,s1,s2,s3,s4⟩:=mN (P:=P) (o:=p.d+off) vs 0 w c h1 i5 (hv.jS hone);obtain⟨a1,a2,a3,a4,a5,a6,a7,a8⟩:=ng hr ho;refine⟨w',hrun,?_⟩;subst he;refine hr.update (o':=.cells (cs.take off++(aS++cs.drop (off+aS.length))) bO) ho hp ?_ a4 ?_ ?_ hoth s1 s2 s3 s4 (ay (dK _ _).1 a7) ?_
  ·intro j x hx;simp only[dw] at hx;split at hx
   ·rename_i e;cases hx;exact .inl ⟨e,rfl⟩
   ·rename_i hne;have hx':=a2 j x hx;refine .inr ⟨hne,hx',?_⟩;intro q hq hb;obtain⟨cs1,e1⟩:=(hr.sep j id x _ q p hne hx' ho hq hp hb).left;subst e1;exact hne (a3 j cs1 hx)
  ·intro i cs' f hi;simp only[dw] at hi;split at hi
   ·rename_i e;cases hi;subst e;exact⟨(hr.bO i _ _ ho).1,a5⟩
   ·rename_i hne;have hi':=a2 _ _ hi;obtain⟨b1,x,y,b2,b3⟩:=hr.bO i _ _ hi';refine⟨b1,x,y,?_,b3⟩;rw[a6 f (λe=>hne (a3 i cs' (e▸hi)))];exact b2
  ·refine⟨c',e,hw',by rw[hsz];exact h2,by simp;omega,?_⟩;intro i a ha;rw[lq _ _ _ hle] at ha;rw[hget];by_cases hi:off<=i/\i<off+aS.length
   ·rw[ut hi] at ha;rw[ut i5];obtain⟨v,hv1,hv2⟩:=hv.get ha;exact⟨v,by rw[show p.d+i-(p.d+off+0)=i-off by omega];exact hv1,hv2⟩
   ·rw[v6 hi] at ha;rw[v6 i5];exact h4 i a ha
  ·intro j hj hjn;simp only[dw];have hm:=dK (h.alone id bO).low id;rw[v6 (by simp only at hj;omega)];exact a8 j (by simp only at hj;omega)
 ·simp at hs
def HR.Dl{P:Program}{σ:Sg}{h h':H}{w:World}(hr:HR σ h w){t id off:Nat}{a:AV}{v:Value}{p:sE}(hs:h.storeVar P t id off a=some h')(hp:σ id=some p)(hv:V σ a v):
 ∃w',(storeVar t ⟨p.b,p.d+off,none⟩ v).run P w=.ok () w'/\HR σ h' w'/\Ext σ σ h h' w w':=by
 unfold H.storeVar at hs
 cases hn:cw P t with
 | none=>simp[hn] at hs
 | some n=>
  simp only[hn,m8] at hs;obtain⟨hc,he⟩:=aG hs;have hc:=cP hc;obtain⟨w',hrun,h1,h2⟩:=hr.ry (P:=P) he hp hv.cells;refine⟨w',?_,h1,h2⟩
  have hsz:v.cells.size=n:=by have:=hv.cells.1;simp at this;omega
  simp only[storeVar,pp,bM hn,qr,hsz,ne_eq,not_true_eq_false,if_false];simpa using hrun
def up(σ:Sg)(id:Nat)(p:sE):Sg:=λj=>if j=id then some p else σ j
def oR{σ:Sg}{id:Nat}{p:sE}(h:σ id=none):∀j q,σ j=some q->up σ id p j=some q:=by
 intro j q hq;unfold up;split
 ·rename_i e;subst e;rw[h] at hq;cases hq
 ·exact hq
def eo(σ:Sg)(id:Nat)(p:sE):up σ id p id=some p:=by simp[up]
def rf(h:H)(id:Nat)(o:AO)(j:Nat):(h.lay id o).aU.get j=if j=id then some o else h.aU.get j:=by
 unfold H.lay;split<;>exact dw _ _ _ _
def qw(h:H)(id:Nat)(o:AO):(h.lay id o).next=h.next:=by unfold H.lay;split<;>rfl
def CR(h:H)(id:Nat)(o:AO):(h.lay id o).low=h.low:=by unfold H.lay;split<;>rfl
def HR.lay{σ:Sg}{h:H}{w w':World}(hr:HR σ h w){id r:Nat}{o:AO}{ob:Obj}(hid:σ id=none)(hlt:id<h.next)(hlow:h.low<=id)
 (hf:∀j cs,h.aU.get j≠some (.cells cs id)) (hof:∀cs f,o=.cells cs f->f=id)
 (hor:OR (up σ id ⟨w.heap.size,0,r⟩) o ⟨w.heap.size,0,r⟩ (some ob)) (hw:w'.heap=w.heap.push ob) (e1:w'.os=w.os) (e2:w'.tape=w.tape) (e3:w'.output=w.output):
 HR (up σ id ⟨w.heap.size,0,r⟩) (h.lay id o) w'/\Ext σ (up σ id ⟨w.heap.size,0,r⟩) { h with next:=id } (h.lay id o) w w':=by
 have hle:=oR (p:=⟨w.heap.size,0,r⟩) hid
 have hnone:h.aU.get id=none:=by
  cases hg:h.aU.get id with
  | none=>rfl
  | some x=>obtain⟨p,hp,_⟩:=hr.obj id x hg;rw[hid] at hp;cases hp
 have hold:∀b,b<w.heap.size->w'.heap[b]?=w.heap[b]?:=by
  intro b hb;rw[hw,bJ,v6 i5]
 have hother:∀j x,h.aU.get j=some x->∀q,up σ id ⟨w.heap.size,0,r⟩ j=some q->σ j=some q/\q.b<w.heap.size:=by
  intro j x hx q hq
  have hj:j≠id:=λe=>by subst e;rw[hnone] at hx;cases hx
  have:σ j=some q:=by simpa [up,hj] using hq
  exact⟨this,hr.lt hx this⟩
 refine⟨⟨?_,?_,?_,?_,?_⟩,⟨hle,by rw[qw];simp only;omega,by rw[hw];simp,e1,e2,e3,?_,?_,by rw[CR];simp,?_,?_,?_⟩⟩
 ·intro j x hx;rw[rf] at hx;split at hx
  ·rename_i e;cases hx;subst e;refine⟨_,eo _ _ _,?_⟩;rw[hw];simpa using hor
  ·obtain⟨p,hp,h2⟩:=hr.obj j x hx;have:=hr.lt hx hp;exact⟨p,hle _ _ hp,by rw[hold _ this];exact h2.mono hle⟩
 ·intro j hj;rw[qw] at hj
  have:j≠id:=by omega
  simp[up,this,hr.fresh j hj]
 ·intro i j x y p q hij hx hy hp hq hb;rw[rf] at hx hy;split at hx
  ·rename_i e1;split at hy
   ·omega
   ·subst e1;cases hx;have h1:=hother j y hy q hq;rw[eo] at hp;cases hp;simp only at hb;omega
  ·split at hy
   ·rename_i e1;subst e1;cases hy;have h1:=hother i x hx p hp;rw[eo] at hq;cases hq;simp only at hb;omega
   ·exact hr.sep i j x y p q hij hx hy (hother i x hx p hp).1 (hother j y hy q hq).1 hb
 ·intro i cs f hi;rw[rf] at hi;split at hi
  ·rename_i e;cases hi;subst e;have:=hof cs f rfl;subst this;refine⟨by rw[qw];omega,f,f,?_,.inl rfl⟩;unfold H.lay;exact cV _ _ _
  ·obtain⟨b1,x,y,b2,b3⟩:=hr.bO i cs f hi;refine⟨by rw[qw];omega,x,y,?_,b3⟩;have hne:f≠id:=λe=>hf i cs (e▸hi);unfold H.lay;split
   ·simp only;rw[bp _ _ hne];exact b2
   ·exact b2
 ·rw[CR,qw];exact hr.CW
 ·intro j x q hx hq;rw[rf] at hx;split at hx
  ·rename_i e;subst e;rw[eo] at hq;cases hq;exact .inl (ac _)
  ·exact .inr ⟨j,x,q,hx,(hother j x hx q hq).1,rfl,λh=>h⟩
 ·intro b hb _;exact hold b hb
 ·intro j hj hjn;rw[CR] at hj;rw[rf,v6 i5]
 ·intro j hj hn;have hj:j<id:=hj;simp only[up];rw[v6 i5];exact hn
 ·intro j cs f hj;rw[rf] at hj;split at hj
  ·cases hj;exact .inl (Nat.le_of_eq (hof cs f rfl).symm)
  ·exact .inr ⟨j,cs,hj⟩
def HR.more{σ:Sg}{h:H}{w:World}(hr:HR σ h w)(n:Nat)(hn:h.next<=n):HR σ { h with next:=n } w:=
 ⟨hr.obj,λid hid=>hr.fresh id (ay hn hid),hr.sep,λi cs f hi=>let ⟨a,b⟩:=hr.bO i cs f hi;⟨al a hn,b⟩,ay hr.CW hn⟩
def Ext.more{σ σ':Sg}{h h':H}{w w':World}{n:Nat}(hn:h.next<=n)(he:Ext σ σ' { h with next:=n } h' w w'):Ext σ σ' h h' w w':=
 ⟨he.le,ay hn he.next,he.size,he.os,he.tape,he.output,he.SL,he.frame,he.low,λid h1 h2=>he.same id h1 (al h2 hn),λid h1 h2=>he.mi id (al h1 hn) h2,
  λid cs f ho=>(he.dy id cs f ho).imp (λh=>ay hn h) (λh=>h)⟩
def Fp(h:H)(id n:Nat)(o:AO):{ h.lay id o with next:=n }=({ h with next:=n }:H).lay id o:=by unfold H.lay;split<;>rfl
def HR.new{σ:Sg}{h:H}{w w':World}(hr:HR σ h w){r:Nat}{o:AO}{ob:Obj}(hof:∀cs f,o=.cells cs f->f=h.next)
 (hor:OR (up σ h.next ⟨w.heap.size,0,r⟩) o ⟨w.heap.size,0,r⟩ (some ob)) (hw:w'.heap=w.heap.push ob) (e1:w'.os=w.os) (e2:w'.tape=w.tape) (e3:w'.output=w.output):
 HR (up σ h.next ⟨w.heap.size,0,r⟩) { h.lay h.next o with next:=h.next+1 } w'/\Ext σ (up σ h.next ⟨w.heap.size,0,r⟩) h { h.lay h.next o with next:=h.next+1 } w w':=by
 rw[Fp]
 have:=HR.lay (hr.more (h.next+1) i5) (id:=h.next) (o:=o) (ob:=ob) (w':=w') (r:=r) (hr.fresh _ (ac _)) gt hr.CW
  (λj cs hj=>by have:=(hr.bO j cs _ hj).1;omega) hof hor hw e1 e2 e3
 exact⟨this.1,this.2⟩
def Hj{σ:Sg}{aS:List AV}{vs:List Value}{id b:Nat}{e:TypeId}(hv:VL σ aS vs){c:Array Value}(hc:c.toList.take vs.length=vs):OR σ (.cells aS id) ⟨b,0,c.size⟩ (some (.cells c e (0,0))):=by
 have hlen:vs.length<=c.size:=by
  have:=rg cI hc;simp at this;omega
 refine⟨c,e,rfl,by simp,by have:=hv.1;simp only;omega,?_⟩;intro i a ha;obtain⟨v,h1,h2⟩:=hv.get ha;refine⟨v,?_,h2⟩
 have hi:i<vs.length:=by
  rcases aR i vs.length with h | h
  ·exact h
  ·simp[ad h] at h1
 rw[<-hc,am,ut hi] at h1;simpa using h1
def mS:∀(x y:List UInt8),x.map (·.toNat)=y.map (·.toNat)->x=y
 | [],[],_=>rfl
 | [],b::y,h=>by simp at h
 | a::x,[],h=>by simp at h
 | a::x,b::y,h=>by
  simp only[cc,m6] at h;rw[UInt8.toNat_inj.1 h.1,mS x y h.2]
def qZ{a b:List Nat}{s t:ByteArray}(h:s.data.toList.map (·.toNat)=a)(k:t.data.toList.map (·.toNat)=b):uC a b=(s.toList==t.toList):=by
 rw[xh,ByteArray.toList_eq,ByteArray.toList_eq,<-h,<-k];by_cases e:s.data.toList=t.data.toList
 ·simp[e]
 ·have:¬(s.data.toList.map (·.toNat)=t.data.toList.map (·.toNat)):=λh=>e (mS _ _ h);simp only[this,decide_false];symm;exact beq_eq_false_iff_ne.2 e
def oD:∀(x y:List UInt8),fe (x.map (·.toNat)) (y.map (·.toNat))=Op.bytesLess x y
 | x,[]=>by cases x<;>simp[fe,Op.bytesLess]
 | [],b::y=>by simp[fe,Op.bytesLess]
 | a::x,b::y=>by
  simp only[cc,fe,Op.bytesLess,oD x y]
  have e1:blt a.toNat b.toNat=decide (a<b):=by
   cases h:blt a.toNat b.toNat
   ·have:=Jv h;symm;simp[UInt8.lt_iff_toNat_lt];omega
   ·have:=fO h;symm;simp[UInt8.lt_iff_toNat_lt];omega
  have e2:beq a.toNat b.toNat=(a==b):=by
   cases h:beq a.toNat b.toNat
   ·have:=gZ h;symm;simp;intro e;subst e;exact this rfl
   ·have:=cP h;symm;simp;exact UInt8.toNat_inj.1 this
  rw[e1,e2]
def ua{l:List Nat}{s:ByteArray}(h:s.data.toList.map (·.toNat)=l):s.size=l.length:=by
 rw[<-h,List.length_map,Array.length_toList];rfl
def tU{P:Program}{σ:Sg}{w:World}{d D:Nat}(ih:∀(t:TypeId) (x y:AV) (v u:Value) (b:Bool),lk P d t x y=some b->V σ x v->V σ y u->(Op.equalIn D t v u).run P w=.ok b w)
 {xs ys:List AV} {vs us:Array Value} (hx:VL σ xs vs.toList) (hy:VL σ ys us.toList):∀(fs:List Field) (b:Bool),eqFields P (lk P d) fs xs ys=some b->(Op.eqFields D vs us fs).run P w=.ok b w
 | [],b,h=>by simp[eqFields] at h;subst h;rfl
 | f::fs,b,h=>by
  simp only[eqFields] at h;cases hn:f.name== "_"
  ·rw[hn,az] at h
   have hne:f.name≠ "_":=by simpa using hn
   cases h1:eV P f.type xs f.offset with
   | none=>simp[h1] at h
   | some a=>
    cases h2:eV P f.type ys f.offset with
    | none=>simp[h1,h2] at h
    | some c=>
     simp only[h1,h2] at h;obtain⟨v,hv,hV⟩:=jo (w:=w) hx h1;obtain⟨u,hu,hU⟩:=jo (w:=w) hy h2;simp only[Op.eqFields,hne,ne_eq,not_false_eq_true,if_true,pp,hv,qr,hu]
     cases h3:lk P d f.type a c with
     | none=>simp[h3] at h
     | some r=>
      rw[ih _ _ _ _ _ _ h3 hV hU];cases r
      ·simp[h3] at h;subst h;simp
      ·simp only[h3] at h;simp only[qr,Bool.not_true,Bool.false_eq_true,if_false];exact tU ih hx hy fs b h
  ·simp[hn] at h
def vN{P:Program}{σ:Sg}{w:World}{d D e s:Nat}(ih:∀(t:TypeId) (x y:AV) (v u:Value) (b:Bool),lk P d t x y=some b->V σ x v->V σ y u->(Op.equalIn D t v u).run P w=.ok b w)
 {xs ys:List AV} {vs us:Array Value} (hx:VL σ xs vs.toList) (hy:VL σ ys us.toList):∀(m i:Nat) (b:Bool),sV P (lk P d e) e s xs ys m i=some b->
 (forIn (m:=Sem) (range' i m) ((none,()):Option Bool×Unit) λi _=>do
  let a <-part e vs (i*s)
  let c <-part e us (i*s)
  let q <-Op.equalIn D e a c
  if (!q)=true then pure (.done (some false,())) else pure (.yield (none,()))).run P w=.ok (if b then (none,()) else (some false,())) w
 | 0,i,b,h=>by simp[sV] at h;subst h;simp
 | m+1,i,b,h=>by
  simp only[sV] at h
  cases h1:eV P e xs (i*s) with
  | none=>simp[h1] at h
  | some a=>
   cases h2:eV P e ys (i*s) with
   | none=>simp[h1,h2] at h
   | some c=>
    simp only[h1,h2] at h;obtain⟨v,hv,hV⟩:=jo (w:=w) hx h1;obtain⟨u,hu,hU⟩:=jo (w:=w) hy h2;rw[ch,b9];simp only[pp,hv,qr,hu]
    cases h3:lk P d e a c with
    | none=>simp[h3] at h
    | some r=>
     rw[ih _ _ _ _ _ _ h3 hV hU];cases r
     ·simp[h3] at h;subst h;simp
     ·simp only[h3] at h;simp only[qr,bv,af,if_false,ne];exact vN ih hx hy m (i+1) b h
def JE{P:Program}{σ:Sg}{w:World}(k:Nat):∀(d:Nat) (t:TypeId) (x y:AV) (v u:Value) (b:Bool),lk P d t x y=some b->V σ x v->V σ y u->(Op.equalIn (d+k) t v u).run P w=.ok b w:=by
 intro d
 induction d with
 | zero=>intro t x y v u b h;simp[lk] at h
 | succ d ih=>
  intro t x y v u b h hv hu;rw[show d+1+k=(d+k)+1 by omega];simp only[lk] at h;split at h
  case h_1 hu'=>simp only[rc] at h;subst h;cases hv;cases hu;simp[Op.equalIn,aN hu']
  case h_2 hu'=>
   obtain⟨hk,h⟩:=aG h;simp only[rc] at h;subst h;have:=(xl _ _).1 hk;subst this;cases hv;cases hu;simp[Op.equalIn,aN hu',sW]
  case h_3 hu'=>
   simp only[rc] at h;subst h
   cases hv with
   | str h1=>cases hu with
    | str h2=>simp[Op.equalIn,aN hu',qZ h1 h2,beq_toListBytes]
  case h_4 hu'=>
   simp only[rc] at h;subst h;cases hv;cases hu<;>simp[Op.equalIn,aN hu']
  case h_5 hu'=>simp only[rc] at h;subst h;cases hv;cases hu;simp[Op.equalIn,aN hu']
  case h_6 hu'=>
   simp only[rc] at h;subst h;cases hv;cases hu<;>simp[Op.equalIn,aN hu']
  case h_7 hu'=>simp only[rc] at h;subst h;cases hv;cases hu;simp[Op.equalIn,aN hu']
  case h_8 hu'=>
   simp only[rc] at h;subst h;cases hv;cases hu<;>simp[Op.equalIn,aN hu']
  case h_9 hu'=>simp only[rc] at h;subst h;cases hv;cases hu;simp[Op.equalIn,aN hu']
  case h_10 hu'=>simp only[rc] at h;subst h;cases hv;cases hu;simp[Op.equalIn,aN hu']
  case h_11 hu'=>simp only[rc] at h;subst h;cases hv;cases hu<;>simp[Op.equalIn,aN hu']
  case h_12 hu'=>simp only[rc] at h;subst h;cases hu;cases hv<;>simp[Op.equalIn,aN hu']
  case h_13 fs xs ys hu'=>
   cases hs:P.stoodInHeld t
   ·rw[hs,az] at h;obtain⟨vs,rfl,hvs⟩:=hv.nT;obtain⟨us,rfl,hus⟩:=hu.nT
    have hf:P.fieldsOf t=fs:=by simp[Program.fieldsOf,hu']
    rw[run_equalIn_struct w (d+k) t vs us (by rw[hf];exact hu') hs,hf];exact tU (λt x y v u b h h1 h2=>ih t x y v u b h h1 h2) hvs hus _ _ h
   ·simp[hs] at h
  case h_14 n e xs ys hu'=>
   cases hs:cw P e with
   | none=>simp[hs] at h
   | some s=>
    simp only[hs,m8] at h;obtain⟨vs,rfl,hvs⟩:=hv.nT;obtain⟨us,rfl,hus⟩:=hu.nT;have hr:=vN (λt x y v u b h h1 h2=>ih t x y v u b h h1 h2) hvs hus n 0 b h;simp only[Op.equalIn,pp,aN hu',qr,bM hs];simp only[Std.Legacy.Range.forIn_eq_forIn_range',Std.Legacy.Range.size,co,ca,Nat.div_one];rw[hr];cases b<;>simp
  case h_15=>simp at h
def tT{P:Program}{σ:Sg}{w:World}{em:Bool}{D:Nat}{ck:TypeId->AV->Bool}(ih:∀(t:TypeId) (x:AV) (v:Value),ck t x=true->V σ x v->(Instr.checkKey em D t v).run P w=.ok () w)
 {xs:List AV} {vs:Array Value} (hx:VL σ xs vs.toList):∀(fs:List Field),oh P ck fs xs=true->
 (forIn (m:=Sem) fs PUnit.unit λf _=>if f.name≠ "_" then do
  let a <-part f.type vs f.offset
  Instr.checkKey em D f.type a
  pure (.yield PUnit.unit) else pure (.yield PUnit.unit)).run P w=.ok PUnit.unit w
 | [],_=>by simp
 | f::fs,h=>by
  simp only[oh,Bool.and_eq_true] at h;obtain⟨h1,h2,h3⟩:=h
  have hne:f.name≠ "_":=by simpa using h1
  cases h4:eV P f.type xs f.offset with
  | none=>simp[h4] at h2
  | some a=>
   simp only[h4] at h2;obtain⟨v,hv,hV⟩:=jo (w:=w) hx h4;rw[List.forIn_cons];simp only[hne,ne_eq,not_false_eq_true,if_true,pp,hv,qr,ih _ _ _ h2 hV,ne];exact tT ih hx fs h3
def vM{P:Program}{σ:Sg}{w:World}{em:Bool}{D e s:Nat}{ck:AV->Bool}(ih:∀(x:AV) (v:Value),ck x=true->V σ x v->(Instr.checkKey em D e v).run P w=.ok () w)
 {xs:List AV} {vs:Array Value} (hx:VL σ xs vs.toList) (hs:cw P e=some s):∀(m i:Nat),xf P ck e s xs m i=true->
 (forIn (m:=Sem) (range' i m) PUnit.unit λi _=>do
  let n <-sizeOf e
  let a <-part e vs (i*n)
  Instr.checkKey em D e a
  pure (.yield PUnit.unit)).run P w=.ok PUnit.unit w
 | 0,i,_=>by simp
 | m+1,i,h=>by
  simp only[xf,aa] at h;obtain⟨h1,h2⟩:=h
  cases h4:eV P e xs (i*s) with
  | none=>simp[h4] at h1
  | some a=>
   simp only[h4] at h1;obtain⟨v,hv,hV⟩:=jo (w:=w) hx h4;rw[ch,b9];simp only[pp,bM hs,hv,qr,ih _ _ h1 hV,ne];exact vM ih hx hs m (i+1) h2
def Pz{P:Program}{σ:Sg}{w:World}(em:Bool)(k:Nat):∀(d:Nat) (t:TypeId) (x:AV) (v:Value),EH P d t x=true->V σ x v->(Instr.checkKey em (d+k) t v).run P w=.ok () w:=by
 intro d
 induction d with
 | zero=>intro t x v h;simp[EH] at h
 | succ d ih=>
  intro t x v h hv;rw[show d+1+k=(d+k)+1 by omega];simp only[EH] at h;split at h
  case h_1 hu=>cases hv;simp[Instr.checkKey,aN hu]
  case h_2 hu=>cases hv;simp[Instr.checkKey,aN hu]
  case h_3 hu=>cases hv;simp[Instr.checkKey,aN hu]
  case h_4 fs xs hu=>
   obtain⟨vs,rfl,hvs⟩:=hv.nT;have:=tT (w:=w) (em:=em) (λt x v h1 h2=>ih t x v h1 h2) hvs fs.toList h;simp only[Instr.checkKey,pp,aN hu,qr];rw[<-Array.forIn_toList,this];simp
  case h_5 n e xs hu=>
   cases hs:cw P e with
   | none=>simp[hs] at h
   | some s=>
    simp only[hs] at h;obtain⟨vs,rfl,hvs⟩:=hv.nT;have:=vM (w:=w) (em:=em) (λx v h1 h2=>ih e x v h1 h2) hvs hs n 0 h;simp only[Instr.checkKey,pp,aN hu,qr];simp only[Std.Legacy.Range.forIn_eq_forIn_range',Std.Legacy.Range.size,co,ca,Nat.div_one];rw[this];simp
  case h_6=>simp at h
def jG{P:Program}{σ:Sg}{w:World}{t:TypeId}{x:AV}{v:Value}(h:wH P t x=true)(hv:V σ x v)(em:Bool):(Instr.checkKey em 10000 t v).run P w=.ok () w:=
 Pz em 9996 4 t x v h hv
def EL(σ:Sg)(es:List (AV×AV×Nat))(es':List MapEntry):Prop:=es.length=es'.length/\∀(i:Nat) (e:AV×AV×Nat) (m:MapEntry),es[i]?=some e->es'[i]?=some m->ER σ e m
def EL.cons{σ:Sg}{e:AV×AV×Nat}{es:List (AV×AV×Nat)}{l:List MapEntry}(h:EL σ (e::es) l):∃m l',l=m::l'/\ER σ e m/\EL σ es l':=by
 cases l with
 | nil=>have:=h.1;simp at this
 | cons m l'=>exact⟨m,l',rfl,h.2 0 e m gt gt,by have:=h.1;simpa using this,λi x y hx hy=>h.2 (i+1) x y (by simpa using hx) (by simpa using hy)⟩
def EL.nil{σ:Sg}{l:List MapEntry}(h:EL σ [] l):l=[]:=by
 cases l with
 | nil=>rfl
 | cons m l'=>have:=h.1;simp at this
def found(r:Option Nat)(i:Nat)(l:List MapEntry):Option (Nat×Value):=match r with
 | none=>none
 | some j=>(l[j-i]?).map λm=>(j,m.val)
def th{P:Program}{kt:TypeId}{k:AV}:∀(es:List (AV×AV×Nat)) (i j:Nat),gN P kt k es i=some (some j)->i<=j/\j<i+es.length
 | [],i,j,h=>by simp[gN] at h
 | e::es,i,j,h=>by
  simp only[gN] at h;split at h
  ·simp at h;subst h;simp
  ·have:=th es (i+1) j h;simp;omega
  ·simp at h
def yp{r:Option Nat}{i:Nat}{m:MapEntry}{l:List MapEntry}(h:∀j,r=some j->i+1<=j):found r i (m::l)=found r (i+1) l:=by
 cases r with
 | none=>rfl
 | some j=>have:=h j rfl;simp only[found];rw[show j-i=(j-(i+1))+1 by omega,ax]
def qj{P:Program}{σ:Sg}{w:World}{kt:TypeId}{k:AV}{v:Value}(hk:V σ k v):∀(es:List (AV×AV×Nat)) (l:List MapEntry) (i:Nat) (r:Option Nat),
 gN P kt k es i=some r->EL σ es l->(Instr.findAsking kt v l i).run P w=.ok (found r i l) w
 | [],l,i,r,h,hl=>by have:=hl.nil;subst this;simp[gN] at h;subst h;simp[Instr.findAsking,found]
 | e::es,l,i,r,h,hl=>by
  obtain⟨m,l',rfl,he,hl'⟩:=hl.cons;simp only[gN] at h
  cases h1:lk P 4 kt k e.1 with
  | none=>simp[h1] at h
  | some b=>
   have hr:(Op.equal kt v m.key).run P w=.ok b w:=JE 9996 4 kt k e.1 v m.key b h1 hk he.1;simp only[Instr.findAsking,pp,hr,qr];cases b
   ·simp only[h1] at h;rw[v6 gt,qj hk es l' (i+1) r h hl'];rw[yp];intro j hj;subst hj;exact(th es (i+1) j h).1
   ·simp only[h1,rc] at h;subst h;simp[found]
def Iq{P:Program}{σ:Sg}{d:Nat}{kt:TypeId}{kd:TypeDesc}(hu:P.underlying kt=some kd){x y:AV}{v u:Value}{b c:Bool}(h:lk P (d+1) kt x y=some b)(hx:V σ x v)(hy:V σ y u)(hn:Instr.sameNow kd v u=some c):c=b:=by
 simp only[lk,hu] at h;unfold Instr.sameNow at hn;split at hn
 ·cases hx with
  | any _=>simp at h
  | int=>cases hy with
   | any _=>simp at h
   | int=>
    obtain⟨h1,h2⟩:=aG h;have:=(xl _ _).1 h1;subst this;simp only[if_true,rc] at hn h2;rw[<-hn,<-h2,sW]
 ·cases hx with
  | any _=>simp at h
  | str h1=>cases hy with
   | any _=>simp at h
   | str h2=>
    simp only[rc] at h hn;rw[<-hn,<-h,qZ h1 h2,beq_toListBytes]
 ·cases hx with
  | any _=>simp at h
  | bool=>cases hy with
   | any _=>simp at h
   | bool=>
    simp only[rc] at h hn;rw[<-hn,<-h]
 ·simp at hn
def yj{P:Program}{σ:Sg}{kt:TypeId}{kd:TypeDesc}(hu:P.underlying kt=some kd){k:AV}{v:Value}(hk:V σ k v):∀(es:List (AV×AV×Nat)) (l:List MapEntry) (i:Nat) (r:Option Nat) (q:Option (Nat×Value)),
 gN P kt k es i=some r->EL σ es l->Instr.findNow kd v l i=some q->q=found r i l
 | [],l,i,r,q,h,hl,hn=>by have:=hl.nil;subst this;simp[gN] at h;subst h;simp[Instr.findNow] at hn;subst hn;rfl
 | e::es,l,i,r,q,h,hl,hn=>by
  obtain⟨m,l',rfl,he,hl'⟩:=hl.cons;simp only[gN] at h
  cases h1:lk P 4 kt k e.1 with
  | none=>simp[h1] at h
  | some b=>
   simp only[Instr.findNow] at hn
   cases hs:Instr.sameNow kd v m.key with
   | none=>simp[hs] at hn
   | some c=>
    have:=Iq hu h1 hk he.1 hs;subst this;cases c
    ·simp only[h1] at h;simp only[hs] at hn;rw[yj hu hk es l' (i+1) r q h hl' hn,yp];intro j hj;subst hj;exact(th es (i+1) j h).1
    ·simp only[h1,rc] at h;simp only[hs,rc] at hn;subst h;subst hn;simp[found]
def nk{P:Program}{σ:Sg}{w:World}{kt:TypeId}{kd:TypeDesc}(hu:P.underlying kt=some kd){k:AV}{v:Value}(hk:V σ k v){es:List (AV×AV×Nat)}{l:List MapEntry}{r:Option Nat}
 (h:gN P kt k es 0=some r) (hl:EL σ es l):(Instr.findKey kt v l).run P w=.ok (found r 0 l) w:=by
 simp only[Instr.findKey,pp,aN hu,qr]
 cases hn:Instr.findNow kd v l 0 with
 | some q=>rw[yj hu hk es l 0 r q h hl hn];simp
 | none=>exact qj hk es l 0 r h hl
def oU{eq:AV->AV->Bool}(ih:∀a b,eq a b=true->a=b):∀xs ys:List AV,fN eq xs ys=true->xs=ys
 | [],[],_=>rfl
 | [],_::_,h=>by simp[fN] at h
 | _::_,[],h=>by simp[fN] at h
 | x::xs,y::ys,h=>by
  simp only[fN,aa] at h;rw[ih x y h.1,oU ih xs ys h.2]
def Nf:∀(n:Nat) (a b:AV),gM n a b=true->a=b:=by
 intro n
 induction n with
 | zero=>intro a b h;simp[gM] at h
 | succ n ih=>
  intro a b h;simp only[gM] at h;split at h
  case h_1=>simp at h;rw[h]
  case h_2=>simp only[aa] at h;have h2:=h.2;rw[sW] at h2;rw[(xl _ _).1 h.1,beq_iff_eq.1 h2]
  case h_3=>rw[xh] at h;rw[ww h]
  case h_4=>rfl
  case h_5=>simp only[aa] at h;rw[cP h.1,cP h.2]
  case h_6=>
   simp only[aa] at h;obtain⟨⟨⟨⟨h1,h2⟩,h3⟩,h4⟩,h5⟩:=h;rw[cP h1,cP h2,cP h3,cP h4];split at h5
   ·rfl
   ·rw[cP h5]
   ·simp at h5
  case h_7=>simp only[aa] at h;rw[cP h.1.1,cP h.1.2,cP h.2]
  case h_8=>rfl
  case h_9=>rw[cP h]
  case h_10=>rfl
  case h_11=>rfl
  case h_12=>rw[oU ih _ _ h]
  case h_13=>rw[oU ih _ _ h]
  case h_14=>rw[cP h]
  case h_15=>simp only[aa] at h;rw[cP h.1,oU ih _ _ h.2.1,oU ih _ _ h.2.2]
  case h_16=>simp only[aa] at h;rw[cP h.1,ih _ _ h.2]
  case h_17=>simp only[aa] at h;rw[ww h.1,oU ih _ _ h.2.1,oU ih _ _ h.2.2]
  case h_18=>simp at h
def tm{σ:Sg}{x:AV}{v u:Value}(hf:mD x=true)(h:V σ x v)(k:V σ x u):v=u/\∀n,Instr.sameBits n v u=true:=by
 cases x<;>simp[mD] at hf
 ·cases h;cases k;exact⟨rfl,λn=>by cases n<;>simp[Instr.sameBits]⟩
 ·cases h;cases k;exact⟨rfl,λn=>by cases n<;>simp[Instr.sameBits]⟩
 ·cases h with
  | @str _ s h1=>cases k with
   | @str _ t h2=>
    have e:s=t:=by
     have:=mS _ _ (h1.trans h2.symm);obtain⟨⟨a⟩⟩:=s;obtain⟨⟨b⟩⟩:=t;simp only at this;subst this;rfl
    subst e
    have hb:(s==s)=true:=by rw[beq_toListBytes];simp
    exact⟨rfl,λn=>by cases n<;>simpa [Instr.sameBits] using hb⟩
def Br{σ:Sg}:∀(xs:List AV) (vs us:List Value),xs.all mD=true->VL σ xs vs->VL σ xs us->vs=us/\∀n,(vs.zip us).all (λ(x,y)=>Instr.sameBits n x y)=true
 | [],vs,us,_,h,k=>by have:=h.pw;subst this;have:=k.pw;subst this;exact⟨rfl,λn=>by simp⟩
 | x::xs,vs,us,hf,h,k=>by
  obtain⟨v,vs',rfl,h1,h2⟩:=h.dA;obtain⟨u,us',rfl,k1,k2⟩:=k.dA;simp only[cn,aa] at hf;obtain⟨a,b⟩:=tm hf.1 h1 k1;obtain⟨c,d⟩:=Br xs vs' us' hf.2 h2 k2;exact⟨by rw[a,c],λn=>by simp only[List.zip_cons_cons,cn,b n,d n,Bool.and_self]⟩
def B3{P:Program}{σ:Sg}{w:World}{k mi:AV}{v u:Value}(h:stays k mi=true)(hv:V σ k v)(hu:V σ mi u):(Instr.keyThatStays u v).run P w=.ok v w:=by
 simp only[stays,aa] at h;have:=Nf _ _ _ h.2;subst this
 have hs:Instr.sameBits 10000 u v=true:=by
  have hk:=h.1
  cases k with
  | agg cs=>
   obtain⟨vs,rfl,hvs⟩:=hv.nT;obtain⟨us,rfl,hus⟩:=hu.nT;obtain⟨e,hall⟩:=Br cs us.toList vs.toList hk hus hvs
   have hsz:us.size=vs.size:=by have:=rg cI e;simpa using this
   simp only[Instr.sameBits,hsz,beq_self_eq_true,Bool.true_and];exact hall 9999
  | bool _=>exact(tm rfl hu hv).2 _
  | int _ _=>exact(tm rfl hu hv).2 _
  | str _=>exact(tm rfl hu hv).2 _
  | _=>simp[Dd,mD] at hk
 simp[Instr.keyThatStays,hs]
def M0{P:Program}{σ:Sg}{w:World}{op:BinOp}{a b:Int}{r:AV}(h:Cx op a b=some r):∃v,(Op.intCmp op a b).run P w=.ok v w/\V σ r v:=by
 unfold Cx at h;split at h
 all_goals first
  | (simp only[rc] at h;subst h;refine⟨_,rfl,?_⟩)
  | (simp at h;done)
 ·rw[sW];exact .bool _
 ·rw[sW];exact .bool _
 ·rw[gx]
  have e:(!decide (b<=a))=decide (a<b):=by by_cases h:b<=a<;>simp[h]<;>omega
  rw[e];exact .bool _
 ·rw[gx];exact .bool _
 ·rw[gx]
  have e:(!decide (a<=b))=decide (a>b):=by by_cases h:a<=b<;>simp[h]<;>omega
  rw[e];exact .bool _
 ·rw[gx];exact .bool _
def JS{b:Int}(h:R0 b=false):b≠0:=by
 intro e;subst e;simp[R0] at h
def Nc{P:Program}(d:Nat)(t:TypeId)(y:AV):lk P d t .any y=none:=by
 cases d with
 | zero=>rfl
 | succ d=>unfold lk;split<;>simp_all
def Nd{P:Program}(d:Nat)(t:TypeId)(x:AV):lk P d t x .any=none:=by
 cases d with
 | zero=>rfl
 | succ d=>unfold lk;split<;>simp_all
def xT{P:Program}{op:BinOp}{t:TypeId}{x y r:AV}(h:da P op t x y=some r):x≠.any/\y≠.any:=by
 constructor
 ·rintro rfl;unfold da at h;split at h
  case h_1=>simp_all
  case h_2=>simp_all
  case h_3=>simp_all
  case h_4=>split at h<;>simp[Nc] at h<;>(cases hg:P.eqGuardType P.depth t<;>simp[hg] at h)
 ·rintro rfl;unfold da at h;split at h
  case h_1=>simp_all
  case h_2=>simp_all
  case h_3=>simp_all
  case h_4=>split at h<;>simp[Nd] at h<;>(cases hg:P.eqGuardType P.depth t<;>simp[hg] at h)
def MH{P:Program}{σ:Sg}{w:World}{op:BinOp}{t:TypeId}{x y:AV}{v u:Value}{r:AV}(h:da P op t x y=some r)(hv:V σ x v)(hu:V σ y u):
 ∃z,(binOp op t v u).run P w=.ok z w/\V σ r z:=by
 have hany:=xT h;unfold da at h;split at h
 case h_1 k a k' b=>
  cases hv;cases hu;split at h
  case h_1=>
   obtain⟨h0,h⟩:=aG h;simp only[aa,gx,wp] at h0;simp only[rc] at h;subst h;refine⟨_,by simp only[binOp,Op.shift];rw[v6 i5];rfl,?_⟩;rw[gX];simp only[ce];exact .int _ _
  case h_2=>
   obtain⟨h0,h⟩:=aG h;simp only[aa,gx,wp] at h0;simp only[rc] at h;subst h;refine⟨_,by simp only[binOp,Op.shift];rw[v6 i5];rfl,?_⟩;simp only[ce];exact .int _ _
  case h_3 hn1 hn2=>
   obtain⟨hk,h2⟩:=aG h;clear h;have:=(xl _ _).1 hk;subst this;have h:=h2;clear h2;split at h
   ·simp only[rc] at h;subst h;exact⟨.int k (k.wrap (a+b)),by simp[binOp,Op.intArith],by rw[gX];exact .int _ _⟩
   ·simp only[rc] at h;subst h;exact⟨.int k (k.wrap (a-b)),by simp[binOp,Op.intArith],by rw[gX];exact .int _ _⟩
   ·simp only[rc] at h;subst h;exact⟨.int k (k.wrap (a*b)),by simp[binOp,Op.intArith],by rw[gX];exact .int _ _⟩
   ·cases hz:R0 b
    ·rw[hz,az] at h;have:=JS hz;simp only[rc] at h;subst h;exact⟨.int k (k.wrap (a.tdiv b)),by simp[binOp,Op.intDiv,this],by rw[gX];exact .int _ _⟩
    ·simp[hz] at h
   ·cases hz:R0 b
    ·rw[hz,az] at h;have:=JS hz;simp only[rc] at h;subst h;exact⟨.int k (a.tmod b),by simp[binOp,Op.intDiv,this],.int _ _⟩
    ·simp[hz] at h
   ·simp at h
   ·simp at h
   ·simp at h
   ·simp at h
   ·obtain⟨z,hz,hV⟩:=M0 (P:=P) (σ:=σ) (w:=w) h;refine⟨z,?_,hV⟩;cases op<;>simp_all [binOp]
 case h_2 a b=>
  cases hv with
  | str h1=>cases hu with
   | str h2=>
    rename_i s1 s2;have e1:=qZ h1 h2
    have e2:fe a b=Op.bytesLess s1.toList s2.toList:=by rw[<-h1,<-h2,ByteArray.toList_eq,ByteArray.toList_eq];exact oD _ _
    split at h
    ·obtain⟨h0,h9⟩:=aG h;have h0:=jg h0;simp only[rc] at h9;subst h9;refine⟨_,by simp only[binOp,Op.stringOp];rw[v6];rfl;rw[ua h1,ua h2];simp[IntKind.max,IntKind.signed,IntKind.bits];omega,?_⟩;refine .str ?_;rw[<-h1,<-h2];simp[ByteArray.data_append]
    all_goals first
     | (simp only[rc] at h;subst h;refine⟨_,rfl,?_⟩;simp only[e1,e2];exact .bool _)
     | simp at h
 case h_3=>simp at h
 case h_4=>
  have hne:(∀k a k' b,¬(v=.int k a/\u=.int k' b))/\(∀a b,¬(v=.string a/\u=.string b)):=by
   refine⟨?_,?_⟩
   ·rintro k a k' b ⟨rfl,rfl⟩
    cases hv with
    | any _=>exact hany.1 rfl
    | int=>cases hu with
     | any _=>exact hany.2 rfl
     | int=>
      simp_all
      rename_i hx;exact hx _ _ _ _ rfl rfl rfl rfl
   ·rintro a b ⟨rfl,rfl⟩
    cases hv with
    | any _=>exact hany.1 rfl
    | str=>cases hu with
     | any _=>exact hany.2 rfl
     | str=>simp_all
  have heq:∀b,lk P 8 t x y=some b->(Op.equal t v u).run P w=.ok b w:=λb hb=>JE 9992 8 t x y v u b hb hv hu;split at h
  ·cases hg:P.eqGuardType P.depth t
   ·rw[hg,az] at h
    cases he:lk P 8 t x y with
    | none=>simp[he] at h
    | some b=>
     simp only[he,m7,rc] at h;subst h;refine⟨.bool b,?_,.bool _⟩;have:=heq b he;simp only[lk] at he
     split at he<;>cases hv<;>cases hu<;>first
      | (simp only[binOp,pp,this,qr,ne];done)
      | (exact un ⟨rfl,rfl⟩ (hne.1 _ _ _ _))
      | (exact un ⟨rfl,rfl⟩ (hne.2 _ _))
      | (simp at he;done)
   ·simp[hg] at h
  ·cases hg:P.eqGuardType P.depth t
   ·rw[hg,az] at h
    cases he:lk P 8 t x y with
    | none=>simp[he] at h
    | some b=>
     simp only[he,m7,rc] at h;subst h;refine⟨.bool (!b),?_,.bool _⟩;have:=heq b he;simp only[lk] at he
     split at he<;>cases hv<;>cases hu<;>first
      | (simp only[binOp,pp,this,qr,ne];done)
      | (exact un ⟨rfl,rfl⟩ (hne.1 _ _ _ _))
      | (exact un ⟨rfl,rfl⟩ (hne.2 _ _))
      | (simp at he;done)
   ·simp[hg] at h
  ·simp at h
def ET{P:Program}{σ:Sg}{w:World}{op:BinOp}{t:TypeId}{X Y:Operand}{x y:AV}{v u:Value}{r:AV}(h:da P op t x y=some r)(hv:V σ x v)(hu:V σ y u):
 (eqGuard op t X Y v u).run P w=.ok () w:=by
 by_cases hop:op=.eql\/op=.neq
 ·have hx:v≠.nilIface:=by
   intro e;subst e
   cases hv with
   | any _=>exact(xT h).1 rfl
   | wJ=>unfold da at h;split at h<;>simp_all
  have hg:∀a b,v=.agg a->u=.agg b->P.eqGuardType P.depth t=false:=by
   intro a b e1 e2;subst e1;subst e2;have hany:=xT h
   cases hv with
   | any hh=>exact un rfl (hh a)
   | agg=>
    cases hu with
    | any hh=>exact un rfl (hh b)
    | agg=>
     cases hg:P.eqGuardType P.depth t
     ·rfl
     ·unfold da at h
      rcases hop with rfl | rfl<;>simp[hg] at h
  unfold eqGuard
  rcases hop with rfl | rfl<;>simp only[bv,af,if_false]
  all_goals
   cases v<;>first
    | exact un rfl hx
    | (cases u<;>first
     | rfl
     | (simp[hg _ _ rfl rfl];done)
     | (simp;done))
 ·cases op<;>first
   | exact un (.inl rfl) hop
   | exact un (.inr rfl) hop
   | rfl
def QV{P:Program}{σ:Sg}{w:World}{op:UnOp}{x:AV}{v:Value}{r:AV}(h:SA op x=some r)(hv:V σ x v):∃z,(Op.unary op v).run P w=.ok z w/\V σ r z:=by
 unfold SA at h;split at h
 ·cases hv;simp only[rc] at h;subst h;exact⟨_,rfl,by rw[gX];exact .int _ _⟩
 ·cases hv;simp only[rc] at h;subst h;exact⟨_,rfl,.bool _⟩
 ·simp at h
def KV{P:Program}{σ:Sg}{w:World}{s d:TypeId}{x:AV}{v:Value}{r:AV}(h:mA P s d x=some r)(hv:V σ x v):∃z,(convert s d v).run P w=.ok z w/\V σ r z:=by
 unfold mA at h;split at h
 ·rename_i h1 h2;cases hv;simp only[rc] at h;subst h;rename_i k _ n;exact⟨.int k (k.wrap n),by simp[convert,aN h1,aN h2,Conv.intToInt],by rw[gX];exact .int _ _⟩
 ·rename_i h1 h2;simp only[rc] at h;subst h
  cases hv with
  | str hs=>exact⟨_,by simp[convert,aN h1,aN h2],.str hs⟩
 ·simp at h
def Bt(off:Nat):∀(l:List Value) (k:Nat) (cells:Array Value),off+k+l.length<=cells.size->
 ((l.zipIdx k).foldl (λcs (p:Value×Nat)=>cs.setIfInBounds (off+p.2) p.1) cells).toList=cells.toList.take (off+k)++(l++cells.toList.drop (off+k+l.length))
 | [],k,cells,_=>by simp
 | v::l,k,cells,h=>by
  simp only[jp] at h;rw[List.zipIdx_cons,List.foldl_cons,Bt off l (k+1) _ (by simp;omega)];apply List.ext_getElem?;intro j
  have hlen:(cells.setIfInBounds (off+k) v).toList.length=cells.size:=by simp
  rw[show off+(k+1)=(off+k)+1 by omega];have a1:=lq (cells.setIfInBounds (off+k) v).toList l (off+k+1) (by rw[hlen];omega) j;rw[a1];have a2:=lq cells.toList (v::l) (off+k) (by simp;omega) j;rw[a2];simp only[jp,Array.toList_setIfInBounds];by_cases h1:j=off+k
  ·subst h1;rw[v6 i5,ut i5,List.getElem?_set_self (by simp;omega)];simp
  ·rw[List.getElem?_set_ne i5];by_cases h2:off+k+1<=j/\j<off+k+1+l.length
   ·rw[ut h2,ut i5,show j-(off+k)=(j-(off+k+1))+1 by omega,List.getElem?_cons_succ]
   ·rw[v6 h2,v6 i5]
def PL(σ:Sg)(ps:List (Nat×AV))(qs:List (Nat×Value)):Prop:=ps.length=qs.length/\∀(i:Nat) (a:Nat×AV) (v:Nat×Value),ps[i]?=some a->qs[i]?=some v->a.1=v.1/\V σ a.2 v.2
def tg{σ:Sg}{place:Nat->Option (Nat×Nat)}:∀(parts:List (Nat×AV)) (parts':List (Nat×Value)) (cells:List AV) (cells':Array Value) (r:List AV),
 jV place cells parts=some r->PL σ parts parts'->VL σ cells cells'.toList->
 ∃r':Array Value,Instr.fill place cells' parts'=some r'/\VL σ r r'.toList
 | [],parts',cells,cells',r,h,hp,hc=>by
  cases parts' with
  | nil=>simp[jV] at h;subst h;exact⟨cells',rfl,hc⟩
  | cons x y=>have:=hp.1;simp at this
 | (i,a)::parts,parts',cells,cells',r,h,hp,hc=>by
  cases parts' with
  | nil=>have:=hp.1;simp at this
  | cons x parts'=>
   obtain⟨i',v⟩:=x;have h0:=hp.2 0 (i,a) (i',v) gt gt;simp only at h0;obtain⟨rfl,hV⟩:=h0;simp only[jV] at h
   cases hpl:place i with
   | none=>simp[hpl] at h
   | some q=>
    obtain⟨off,size⟩:=q;simp only[hpl] at h;obtain⟨hc1,h9⟩:=aG h;simp only[Bool.and_eq_true] at hc1;have e1:=cP hc1.1;have e2:=jg hc1.2;have hvc:=hV.cells;have hl1:=hvc.1;have hl2:=hc.1
    have hsz:v.cells.size=size:=by simp at hl1;omega
    have hcs:cells'.size=cells.length:=by simp at hl2;omega
    have hst:(v.cells.zipIdx.foldl (λcs (c,j)=>cs.setIfInBounds (off+j) c) cells').toList=cells'.toList.take off++(v.cells.toList++cells'.toList.drop (off+v.cells.toList.length)):=by
     have:=Bt off v.cells.toList 0 cells' (by simp;omega);rw[<-Array.foldl_toList,Array.toList_zipIdx];simpa using this
    obtain⟨r',hr',hV'⟩:=tg parts parts' _ (v.cells.zipIdx.foldl (λcs (c,j)=>cs.setIfInBounds (off+j) c) cells') r h9
     ⟨by have:=hp.1;simpa using this,λi a v x y=>hp.2 (i+1) a v (by simpa using x) (by simpa using y)⟩
     (by
      rw[hst];refine(hc.take off).append (hvc.append ?_)
      have:off+v.cells.toList.length=off+size:=by simp[hsz]
      rw[this]
      exact hc.drop _)
    refine⟨r',?_,hV'⟩;simp only[Instr.fill,hpl];rw[v6 (by simp;omega)];exact hr'
def vg{σ:Sg}{t:Tr AV}{ρ:Operand->Value}(hρ:∀x a,ev t x=some a->V σ a (ρ x)):∀(l:List (Nat×Operand)) (ps:List (Nat×AV)),lA t l=some ps->
 PL σ ps (l.map λ(i,x)=>(i,ρ x))
 | [],ps,h=>by simp[lA] at h;subst h;exact⟨rfl,λi a v x _=>by simp at x⟩
 | (k,x)::l,ps,h=>by
  simp only[lA,b0] at h
  cases h1:ev t x with
  | none=>simp[h1] at h
  | some a=>
   cases h2:l.mapM (λp=>(ev t p.2).map λv=>(p.1,v)) with
   | none=>simp[h1,h2] at h
   | some qs=>
    simp[h1,h2] at h;subst h;obtain⟨i1,i2⟩:=vg hρ l qs h2;refine⟨by simpa using i1,?_⟩;intro i a' v hx hy
    cases i with
    | zero=>simp at hx hy;subst hx;subst hy;exact⟨rfl,hρ x a h1⟩
    | succ i=>exact i2 i a' v (by simpa using hx) (by simpa using hy)
def q0{σ:Sg}{t:Tr AV}{ρ:Operand->Value}(hρ:∀x a,ev t x=some a->V σ a (ρ x)):∀(l:List Operand) (aS:List AV),Az t l=some aS->VL σ aS (l.map ρ)
 | [],aS,h=>by simp[Az] at h;subst h;exact .nil
 | x::l,aS,h=>by
  simp only[Az,b0] at h
  cases h1:ev t x with
  | none=>simp[h1] at h
  | some a=>
   cases h2:l.mapM (ev t) with
   | none=>simp[h1,h2] at h
   | some bs=>simp[h1,h2] at h;subst h;exact .cons (hρ x a h1) (q0 hρ l bs h2)
def rP{P:Program}{w:World}{α β:Type}{f:α->Sem β}{g:α->β}:∀(l:List α),(∀x∈l,(f x).run P w=.ok (g x) w)->(l.mapM f).run P w=.ok (l.map g) w
 | [],_=>by simp
 | x::l,h=>by
  rw[b0];simp only[pp,h x gt,qr,rP l (λy hy=>h y (by simp[hy])),ne,cc]
def za{P:Program}{w:World}{α β:Type}{f:α->Sem β}{g:α->β}(l:Array α)(h:∀x∈l.toList,(f x).run P w=.ok (g x) w):(l.mapM f).run P w=.ok (l.map g) w:=by
 have e:l.mapM f=Functor.map List.toArray (l.toList.mapM f):=by
  obtain⟨l⟩:=l;exact List.mapM_toArray
 rw[e,Sem.run_map,rP l.toList h];show Result.ok (l.toList.map g).toArray w=_;obtain⟨l⟩:=l;simp
def Hr{P:Program}{σ:Sg}{w:World}{t:TypeId}{parts:List (Nat×AV)}{parts':Array (Nat×Value)}{r:AV}(h:uJ P t parts=some r)
 (hp:PL σ parts parts'.toList):
 ∃v,(Instr.build t parts').run P w=.ok v w/\V σ r v:=by
 unfold uJ at h
 cases hz:de P t with
 | none=>simp[hz] at h
 | some z=>
  simp only[hz,m8] at h;obtain⟨zv,hzr,hzV,_⟩:=iB (w:=w) (σ:=σ) hz;split at h
  ·rename_i fs hu;obtain⟨hall,h9⟩:=aG h
   cases hf:jV (vi P fs) z.cells parts with
   | none=>simp[hf] at h9
   | some cs=>
    simp only[hf,m7,rc] at h9;subst h9;obtain⟨r',hr',hV⟩:=tg parts parts'.toList z.cells zv.cells cs hf hp hzV.cells
    have hsz:∀f∈fs.toList,(do pure (f.offset,<-sizeOf f.type):Sem (Nat×Nat)).run P w=.ok (f.offset,(cw P f.type).getD 0) w:=by
     intro f hf';have:=all_eq_true.1 hall f hf'
     cases hs:cw P f.type with
     | none=>simp[hs] at this
     | some n=>simp[bM hs]
    have hpl:(λi=>(fs.map λf=>(f.offset,(cw P f.type).getD 0))[i]?)=vi P fs:=by
     funext i;simp only[vi,Array.getElem?_map]
     cases hfi:fs[i]? with
     | none=>rfl
     | some f=>
      simp only[m7,m8]
      have hmem:f∈fs.toList:=by simpa using Array.mem_of_getElem? hfi
      have:=all_eq_true.1 hall f hmem
      cases hs:cw P f.type with
      | none=>simp[hs] at this
      | some n=>simp
    refine⟨.agg r',?_,.xq hV⟩;simp only[Instr.build,pp,hzr,qr,aN hu,za fs hsz];simp only[hpl,hr',ne]
  ·rename_i n e hu
   cases hs:cw P e with
   | none=>simp[hs] at h
   | some s=>
    simp only[hs,m8] at h
    cases hf:jV (λi=>some (i*s,s)) z.cells parts with
    | none=>simp[hf] at h
    | some cs=>
     simp only[hf,m7,rc] at h;subst h;obtain⟨r',hr',hV⟩:=tg parts parts'.toList z.cells zv.cells cs hf hp hzV.cells;refine⟨.agg r',?_,.xq hV⟩;simp only[Instr.build,pp,hzr,qr,aN hu,bM hs,hr',ne]
  ·simp at h
def fY(z:List AV):∀n,(rep z n).length=n*z.length
 | 0=>by simp[rep]
 | n+1=>by simp[rep,fY z n,ct];omega
def Ka(z:List AV)(hz:0<z.length):∀(n i:Nat),i<n*z.length->(rep z n)[i]?=z[i%z.length]?
 | 0,i,h=>by simp at h
 | n+1,i,h=>by
  simp only[rep,ap];by_cases hi:i<z.length
  ·rw[ut hi,Nat.mod_eq_of_lt hi]
  ·rw[v6 hi,Ka z hz n _ (by rw[ct] at h;omega)];rw[Nat.mod_eq_sub_mod (a:=i) i5]
def De{σ:Sg}{z:List AV}{zv:Array Value}(h:VL σ z zv.toList)(hz:0<z.length)(n:Nat):VL σ (rep z n) ((cb (n*z.length)).map λi=>zv[i%z.length]!).toList:=by
 refine⟨by simp[fY],?_⟩;intro i a v ha hv
 have hi:i<n*z.length:=by
  rcases aR i (n*z.length) with h | h
  ·exact h
  ·rw[ad (by rw[fY];omega)] at ha;simp at ha
 rw[Ka z hz n i hi] at ha;simp only[Array.toList_map,Array.toList_range,bh,bt hi,m7,rc] at hv;obtain⟨u,hu,hV⟩:=h.get ha
 have:zv[i%z.length]?=some u:=by simpa using hu
 rw[<-hv];rw[Array.getElem!_eq_getD,Array.getD_eq_getD_getElem?,this];exact hV
def wB{P:Program}{σ:Sg}{w:World}{t:TypeId}{len s:Nat}{cs:List AV}{parts:List (Nat×AV)}{parts':Array (Nat×Value)}(h:gI P t len parts=some (s,cs))
 (hp:PL σ parts parts'.toList):
 ∃(c:Array Value) (e:TypeId),(Instr.buildSlice t len parts').run P w=.ok (.slice (some ⟨w.heap.size,0,none⟩) len len) { w with heap:=w.heap.push (.cells c e (0,0)) }/\VL σ cs c.toList/\cs.length=len*s:=by
 unfold gI at h;split at h
 ·rename_i e hu
  cases hs:cw P e with
  | none=>simp[hs] at h
  | some s'=>
   cases hz:de P e with
   | none=>simp[hs,hz] at h
   | some z=>
    simp only[hs,hz,m8] at h;obtain⟨hc,h9⟩:=aG h;simp only[aa] at hc;obtain⟨hle,hlen,hpos⟩:=hc;have hle:=jg hle;have hlen:=cP hlen
    have hpos:s'≠0:=by intro e0;subst e0;simp at hpos
    cases hf:jV (λi=>some (i*s',s')) (rep z.cells len) parts with
    | none=>simp[hf] at h9
    | some cs'=>
     simp only[hf,m7,rc,m9] at h9;obtain⟨rfl,rfl⟩:=h9;obtain⟨zv,hzr,hzV,_⟩:=iB (w:=w) (σ:=σ) hz
     have hzl:zv.cells.size=s':=by have:=hzV.cells.1;simp at this;omega
     have hrep:=De hzV.cells i5 len;rw[hlen] at hrep;obtain⟨r',hr',hV⟩:=tg parts parts'.toList (rep z.cells len) ((cb (len*s')).map λi=>zv.cells[i%s']!) cs' hf hp hrep;refine⟨r',e,?_,hV,?_⟩
     ·simp only[Instr.buildSlice,pp,aN hu,qr,bM hs];rw[v6 (by simpa using hle)];by_cases h0:len*s'=0
      ·simp only[h0,if_true,pp,ne,qr]
       have he:((cb 0).map λi=>(#[]:Array Value)[i%(#[]:Array Value).size]!)=((cb (len*s')).map λi=>zv.cells[i%s']!):=by rw[h0];simp
       rw[he,hr'];simp[newRow]
      ·simp only[h0,if_false,pp,hzr,qr,ne,hzl,hr'];simp[newRow]
     ·have:∀(ps:List (Nat×AV)) (a b:List AV),jV (λi=>some (i*s',s')) a ps=some b->b.length=a.length:=by
       intro ps
       induction ps with
       | nil=>intro a b hb;simp[jV] at hb;rw[hb]
       | cons p ps ih=>
        intro a b hb;obtain⟨i,v⟩:=p;simp only[jV] at hb;obtain⟨hc,hb⟩:=aG hb;simp only[aa] at hc;have e1:=cP hc.1;have e2:=jg hc.2;rw[ih _ _ hb];simp;omega
      rw[this _ _ _ hf,fY,hlen]
 ·simp at h
def kq{P:Program}{σ:Sg}{w:World}{x:AV}{v:Value}{n:Nat}(h:c7 x=some n)(hv:V σ x v):∃k,v=.int k (n:Int)/\(asIntOf v).run P w=.ok (k,(n:Int)) w:=by
 unfold c7 at h;split at h
 ·simp only[rc] at h;subst h;cases hv;exact⟨_,rfl,rfl⟩
 ·simp at h
def yh{P:Program}{σ:Sg}{w:World}{s:TypeId}{x:AV}{v:Value}{f:Nat}{r:AV}(h:jh P s x f=some r)(hv:V σ x v):∃z,(Instr.fieldAt s v f).run P w=.ok z w/\V σ r z:=by
 unfold jh at h;split at h
 ·rename_i fs id off hu
  cases hf:fs[f]? with
  | none=>simp[hf] at h
  | some fd=>
   simp only[hf,m8] at h
   cases hs:cw P fd.type with
   | none=>simp[hs] at h
   | some n=>
    simp only[hs,m8] at h;cases hn:beq n 0
    ·rw[hn,az] at h;simp only[rc] at h;subst h;have hn0:n≠0:=gZ hn
     cases hv with
     | ptr hp=>
      refine⟨_,?_,.ptr (off:=off+fd.offset) hp⟩;simp only[Instr.fieldAt,pp,aN hu,qr,hf,Instr.sureAddr,ne,fieldPlace,bM hs,hn0,if_false,gF,bc]
    ·simp[hn] at h
 ·simp at h
def HH{P:Program}{σ:Sg}{w:World}{s:TypeId}{x:AV}{v:Value}{f:Nat}{r:AV}(h:uN P s x f=some r)(hv:V σ x v):∃z,(Instr.field s v f).run P w=.ok z w/\V σ r z:=by
 unfold uN at h;split at h
 ·rename_i fs cs hu
  cases hf:fs[f]? with
  | none=>simp[hf] at h
  | some fd=>
   simp only[hf,m8] at h;obtain⟨vs,rfl,hvs⟩:=hv.nT;obtain⟨z,hz,hV⟩:=jo (w:=w) hvs h;exact⟨z,by simp only[Instr.field,pp,aN hu,qr,hf,asAgg,ne];exact hz,hV⟩
 ·simp at h
def yu{P:Program}{σ:Sg}{w:World}{t:TypeId}{x i:AV}{v u:Value}{r:AV}(h:kc P t x i=some r)(hv:V σ x v)(hi:V σ i u):∃z,(Instr.indexAt t v u).run P w=.ok z w/\V σ r z:=by
 unfold kc at h
 cases hn:c7 i with
 | none=>simp[hn] at h
 | some n=>
  simp only[hn,m8] at h;obtain⟨k,rfl,hk⟩:=kq (P:=P) (w:=w) hn hi;split at h
  ·rename_i m e id off hu
   cases hs:cw P e with
   | none=>simp[hs] at h
   | some s=>
    simp only[hs,m8] at h;obtain⟨hlt,h9⟩:=aG h;have hlt:=fO hlt;simp only[rc] at h9;subst h9
    cases hv with
    | ptr hp=>
     refine⟨_,?_,.ptr (off:=off+n*s) hp⟩;simp only[Instr.indexAt,pp,hk,qr,aN hu,Instr.sureAddr,ne]
     have:(0:Int)<=(n:Int)/\(n:Int)<(m:Int):=by omega
     cases hm:decide (m<=1)<;>simp[this,bM hs,gF,bc]
  ·rename_i e id off len es c hu
   cases hs:cw P e with
   | none=>simp[hs] at h
   | some s=>
    simp only[hs,m8] at h;obtain⟨hc,h9⟩:=aG h;simp only[aa] at hc;have hlt:=fO hc.1;have:=cP hc.2;subst this;simp only[rc] at h9;subst h9
    cases hv with
    | slice hp hl hr hcap ha=>
     have ha:=ha.resolve_right i5;subst ha;refine⟨_,?_,.ptr (off:=off+n*s) hp⟩;simp only[Instr.indexAt,pp,hk,qr,aN hu,ne]
     have:(0:Int)<=(n:Int)/\(n:Int)<(len:Int):=by omega
     cases hm:decide (len<=1)<;>simp[this,bM hs,gF,bc]
  ·simp at h
def HP{P:Program}{σ:Sg}{w:World}{t:TypeId}{x i:AV}{v u:Value}{r:AV}(h:uT P t x i=some r)(hv:V σ x v)(hi:V σ i u):∃z,(Instr.index t v u).run P w=.ok z w/\V σ r z:=by
 unfold uT at h
 cases hn:c7 i with
 | none=>simp[hn] at h
 | some n=>
  simp only[hn,m8] at h;obtain⟨k,rfl,hk⟩:=kq (P:=P) (w:=w) hn hi;split at h
  ·rename_i m e cs hu
   cases hs:cw P e with
   | none=>simp[hs] at h
   | some s=>
    simp only[hs,m8] at h;obtain⟨hlt,h9⟩:=aG h;have hlt:=fO hlt;obtain⟨vs,rfl,hvs⟩:=hv.nT;obtain⟨z,hz,hV⟩:=jo (w:=w) hvs h9;refine⟨z,?_,hV⟩
    have:(0:Int)<=(n:Int)/\(n:Int)<(m:Int):=by omega
    simp only[Instr.index,pp,hk,qr,aN hu,this,and_self,if_true,bM hs,ba,hz]
  ·rename_i s hu
   cases hb:s[n]? with
   | none=>simp[hb] at h
   | some b=>
    simp only[hb,m7,rc] at h;subst h
    cases hv with
    | @str _ bs hs=>
     rw[<-hs,bh] at hb
     cases hb':bs.data.toList[n]? with
     | none=>simp[hb'] at hb
     | some c=>
      simp only[hb',m7,rc] at hb;subst hb;refine⟨.int .u8 c.toNat,?_,.int _ _⟩
      have hlt:n<bs.size:=by
       rcases aR n bs.data.toList.length with h | h
       ·simpa using h
       ·simp[ad h] at hb'
      have hg:bs[n]?=some c:=by
       rw[getElem?_pos bs n hlt]
       have:bs.data.toList[n]?=some bs.data[n]:=by simp
       rw[this] at hb';exact hb'
      simp only[Instr.index,pp,hk,qr,aN hu];rw[ut i5,ba,hg];rfl
  ·simp at h
def VO(σ:Sg)(x:Option AV)(v:Option Value):Prop:=match x,v with
 | none,none=>True
 | some x,some v=>V σ x v
 | _,_=>False
def eE{P:Program}{σ:Sg}{w:World}{x:AV}{v:Value}{n y:Nat}(h:c7 x=some n)(hv:V σ x v)(hle:n<=y)(code:BoundsCode):(Instr.sliceBound v y code).run P w=.ok n w:=by
 obtain⟨k,rfl,hk⟩:=kq (P:=P) (w:=w) h hv;simp only[Instr.sliceBound,pp,hk,qr];rw[ut i5];simp
def T9(isS:Bool)(len c:Nat)(hi:Option Value):Sem Nat:=match hi with
 | some v=>Instr.sliceBound v c (if isS then .sliceAcap else .sliceAlen)
 | none=>pure len
def TS(h:Nat)(lo:Option Value):Sem Nat:=match lo with
 | some v=>Instr.sliceBound v h .sliceB
 | none=>pure 0
def zm{P:Program}{w:World}(isS:Bool)(len c:Nat)(lo hi:Option Value):
 (Instr.sliceBounds isS len c lo hi none).run P w=((T9 isS len c hi).run P w).andThen λh w1=>((TS h lo).run P w1).andThen λl w2=>.ok (l,h,c) w2:=by
 cases hi<;>cases lo<;>simp[Instr.sliceBounds,T9,TS]
def oY{P:Program}{σ:Sg}{w:World}{len c:Nat}{cap:Option Nat}{lo hi mx:Option AV}{lo' hi' mx':Option Value}{l h:Nat}{m:Option Nat}(isS:Bool)
 (hb:cK len cap lo hi mx=some (l,h,m)) (hlen:len<=c) (hcap:∀x,cap=some x->x=c) (h1:VO σ lo lo') (h2:VO σ hi hi') (h3:VO σ mx mx'):
 ∃m',(Instr.sliceBounds isS len c lo' hi' mx').run P w=.ok (l,h,m') w/\l<=h/\h<=m'/\m'<=c/\(∀x,m=some x->x=m'):=by
 have fitsle:∀n,pQ len cap n=true->n<=c:=by
  intro n hn;simp only[pQ,b8] at hn
  rcases hn with hn | hn
  ·have:=jg hn;omega
  ·cases cap with
   | none=>simp at hn
   | some x=>have:=hcap x rfl;have:=jg hn;omega
 unfold cK at hb
 cases mx with
 | some v3=>
  cases mx' with
  | none=>exact h3.elim
  | some u3=>
   simp only at hb
   cases hm:c7 v3 with
   | none=>simp[hm] at hb
   | some m0=>
    simp only[hm,m8] at hb;obtain⟨hf,hb⟩:=aG hb;have hmc:=fitsle _ hf
    cases hi with
    | none=>simp at hb
    | some v2=>
     cases hi' with
     | none=>exact h2.elim
     | some u2=>
      simp only at hb
      cases hh:c7 v2 with
      | none=>simp[hh] at hb
      | some h0=>
       simp only[hh,m8] at hb;obtain⟨hhm,hb⟩:=aG hb;have hhm:=jg hhm
       cases lo with
       | none=>
        cases lo' with
        | some _=>exact h1.elim
        | none=>
         simp only[rc,m9] at hb;obtain⟨rfl,rfl,rfl⟩:=hb;refine⟨m0,?_,by omega,hhm,hmc,λx hx=>by simpa using hx.symm⟩;simp only[Instr.sliceBounds,pp,eE hm h3 hmc,qr,eE hh h2 hhm,ne]
       | some v1=>
        cases lo' with
        | none=>exact h1.elim
        | some u1=>
         simp only at hb
         cases hl:c7 v1 with
         | none=>simp[hl] at hb
         | some l0=>
          simp only[hl,m8] at hb;obtain⟨hlh,hb⟩:=aG hb;have hlh:=jg hlh;simp only[rc,m9] at hb;obtain⟨rfl,rfl,rfl⟩:=hb;refine⟨m0,?_,hlh,hhm,hmc,λx hx=>by simpa using hx.symm⟩;simp only[Instr.sliceBounds,pp,eE hm h3 hmc,qr,eE hh h2 hhm,eE hl h1 hlh,ne]
 | none=>
  cases mx' with
  | some _=>exact h3.elim
  | none=>
   simp only at hb
   have hh:∃h0,ou len cap hi=some h0/\h0<=c/\
    (T9 isS len c hi').run P w=.ok h0 w:=by
    cases hi with
    | none=>
     cases hi' with
     | some _=>exact h2.elim
     | none=>exact⟨len,rfl,hlen,rfl⟩
    | some v2=>
     cases hi' with
     | none=>exact h2.elim
     | some u2=>
      cases hn:c7 v2 with
      | none=>simp[ou,hn] at hb
      | some h0=>
       cases hf:pQ len cap h0 with
       | false=>simp[ou,hn,hf] at hb
       | true=>exact⟨h0,by simp[ou,hn,hf],fitsle _ hf,eE hn h2 (fitsle _ hf) _⟩
   obtain⟨h0,e1,e2,e3⟩:=hh;simp only[e1,m8] at hb
   have e4:(Instr.sliceBounds isS len c lo' hi' none).run P w=((TS h0 lo').run P w).andThen λl w2=>.ok (l,h0,c) w2:=by
    rw[zm,e3,qr]
   cases lo with
   | none=>
    cases lo' with
    | some _=>exact h1.elim
    | none=>
     simp only[rc,m9] at hb;obtain⟨rfl,rfl,rfl⟩:=hb;exact⟨c,by rw[e4];rfl,by omega,e2,ac _,hcap⟩
   | some v1=>
    cases lo' with
    | none=>exact h1.elim
    | some u1=>
     simp only at hb
     cases hl:c7 v1 with
     | none=>simp[hl] at hb
     | some l0=>
      simp only[hl,m8] at hb;obtain⟨hlh,hb⟩:=aG hb;have hlh:=jg hlh;simp only[rc,m9] at hb;obtain⟨rfl,rfl,rfl⟩:=hb;refine⟨c,?_,hlh,e2,ac _,hcap⟩;rw[e4];simp only[TS,eE hl h1 hlh,qr]
def yA{m:Option Nat}{l m' x:Nat}(hm:∀x,m=some x->x=m')(h:bT m l=some x):x=m'-l:=by
 cases m with
 | none=>simp[bT] at h
 | some y=>simp[bT] at h;rw[<-h,hm y rfl]
def Ir{P:Program}{σ:Sg}{h:H}{w:World}(hr:HR σ h w){t:TypeId}{x r:AV}{v:Value}{lo hi mx:Option AV}{lo' hi' mx':Option Value}(hs:vq P h t x lo hi mx=some r)
 (hv:V σ x v) (h1:VO σ lo lo') (h2:VO σ hi hi') (h3:VO σ mx mx'):∃z,(Instr.sliceAt t v lo' hi' mx').run P w=.ok z w/\V σ r z:=by
 unfold vq at hs;split at hs
 ·rename_i n e id off hu
  cases hsz:cw P e with
  | none=>simp[hsz] at hs
  | some s=>
   simp only[hsz,m8] at hs
   cases hb:cK n (some n) lo hi mx with
   | none=>simp[hb] at hs
   | some q=>
    obtain⟨l,hh,m⟩:=q;simp only[hb,m8] at hs;obtain⟨m',hrun,a1,a2,a3,a4⟩:=oY (P:=P) (w:=w) false hb (ac _) (λx hx=>by simpa using hx.symm) h1 h2 h3
    cases m with
    | none=>simp at hs
    | some m=>
     have:=a4 m rfl;subst this;simp only at hs;split at hs
     ·rename_i cs f ho;obtain⟨hle,hs⟩:=aG hs;have hle:=jg hle;simp only[rc] at hs;subst hs
      cases hv with
      | ptr hp=>
       obtain⟨q,c,e',hq,b1,b2,b3,b4⟩:=hr.cells ho;rw[hp] at hq;cases hq;refine⟨_,by simp only[Instr.sliceAt,pp,aN hu,qr,Instr.sureAddr,ne,hrun,bM hsz];rfl,?_⟩
       have hmul:l*s+(m-l)*s=m*s:=by rw[<-b6];congr 1;omega
       have hmn:m*s<=n*s:=bi _ a3;refine .slice hp i5 i5 (λx hx=>by simpa using hx.symm) ?_;by_cases hml:m=l
       ·right;omega
       ·left;rw[v6 hml,gF,bc]
     ·simp at hs
 ·rename_i s hu
  cases mx with
  | some _=>simp at hs
  | none=>
   cases mx' with
   | some _=>exact h3.elim
   | none=>
    simp only at hs
    cases hb:cK s.length (some s.length) lo hi none with
    | none=>simp[hb] at hs
    | some q=>
     obtain⟨l,hh,m⟩:=q;simp only[hb,m7,rc] at hs;subst hs
     cases hv with
     | @str _ bs hbs=>
      have hsize:=ua hbs;rw[<-hsize] at hb;obtain⟨m',hrun,a1,a2,a3,a4⟩:=oY (P:=P) (w:=w) (mx':=none) false hb (ac _) (λx hx=>by simpa using hx.symm) h1 h2 trivial;refine⟨.string (bs.extract l hh),?_,.str ?_⟩
      ·simp only[Instr.sliceAt,pp,aN hu,qr,Instr.slice,Option.isSome_none,af,if_false,hrun,ne]
      ·rw[<-hbs]
       have:(bs.extract l hh).data.toList=(bs.data.toList.drop l).take (hh-l):=by
        rw[ByteArray.data_extract];simp[List.extract_eq_take_drop]
       rw[this];simp
 ·rename_i e o len es cap hu
  cases hsz:cw P e with
  | none=>simp[hsz] at hs
  | some s=>
   simp only[hsz,m8] at hs
   cases hb:cK len cap lo hi mx with
   | none=>simp[hb] at hs
   | some q=>
    obtain⟨l,hh,m⟩:=q;simp only[hb,m8] at hs
    cases o with
    | none=>
     simp only[rc] at hs;subst hs
     cases hv with
     | gT hl0=>
      subst hl0;obtain⟨m',hrun,a1,a2,a3,a4⟩:=oY (P:=P) (w:=w) (c:=0) true hb (ac _) (λx hx=>by simpa using hx.symm) h1 h2 h3
      have:m'=0:=by omega
      subst this
      have:hh=0:=by omega
      subst this
      have:l=0:=by omega
      subst this;exact⟨_,by simp only[Instr.sliceAt,pp,aN hu,qr,Instr.slice,hrun,bM hsz,ne,if_true],.gT rfl⟩
    | some q=>
     obtain⟨id,off⟩:=q;obtain⟨hes,hs9⟩:=aG hs;clear hs;have:=cP hes;subst this;simp only[rc] at hs9;subst hs9
     cases hv with
     | @slice _ _ _ _ _ a p c hp hl hroom hcap ha=>
      obtain⟨m',hrun,a1,a2,a3,a4⟩:=oY (P:=P) (w:=w) true hb hl hcap h1 h2 h3;refine⟨_,by simp only[Instr.sliceAt,pp,aN hu,qr,Instr.slice,hrun,bM hsz,ne];rfl,?_⟩
      have hmul:l*s+(m'-l)*s=m'*s:=by rw[<-b6];congr 1;omega
      have hmn:m'*s<=c*s:=bi _ a3;by_cases hml:m'=l
      ·rw[ut hml];exact .slice hp i5 i5 (λx hx=>yA a4 hx) (.inr i5)
      ·rw[v6 hml];have ha:=ha.resolve_right i5;subst ha;exact .slice hp i5 i5 (λx hx=>yA a4 hx) (.inl (by show Addr.add _ _=_;rw[gF,bc]))
 ·simp at hs
def wrap_small(n:Nat)(h:n<=1000000000000):IntKind.i64.wrap (n:Int)=(n:Int):=by
 have h1:decide (NK .i64<=(n:Int))=true:=wl (show(-9223372036854775808:Int)<=(n:Int) by omega);have h2:decide ((n:Int)<=Nz .i64)=true:=wl (show(n:Int)<=(9223372036854775807:Int) by omega);rw[<-gX];unfold dP;rw[gx,gx,h1,h2];rfl
def yN{P:Program}{σ:Sg}{w:World}{t:TypeId}{l c:AV}{l' c':Value}{n s m:Nat}{cs:List AV}(h:kn P t l c=some (n,s,m,cs))(hl:V σ l l')(hc:V σ c c'):
 ∃(a:Array Value) (e:TypeId),(Instr.makeSlice t l' c').run P w=.ok (.slice (some ⟨w.heap.size,0,none⟩) n m) { w with heap:=w.heap.push (.cells a e (0,0)) }/\VL σ cs a.toList/\n<=m/\cs.length=m*s:=by
 unfold kn at h;split at h
 ·rename_i e hu
  cases h1:c7 l with
  | none=>simp[h1] at h
  | some l0=>
   cases h2:c7 c with
   | none=>simp[h1,h2] at h
   | some c0=>
    cases hi:P.info? e with
    | none=>simp[h1,h2,hi] at h
    | some i=>
     cases hz:de P e with
     | none=>simp[h1,h2,hi,hz] at h
     | some z=>
      simp only[h1,h2,hi,hz,m8] at h;obtain⟨hcd,h⟩:=aG h;simp only[aa] at hcd;obtain⟨q1,q2,q3,q4,q5⟩:=hcd;have q1:=jg q1;have q2:=jg q2;have q3:=jg q3;have q4:=cP q4
      have q5:i.size≠0:=by intro e0;rw[e0] at q5;simp at q5
      simp only[rc,m9] at h;obtain⟨rfl,rfl,rfl,rfl⟩:=h;obtain⟨k1,rfl,hk1⟩:=kq (P:=P) (w:=w) h1 hl;obtain⟨k2,rfl,hk2⟩:=kq (P:=P) (w:=w) h2 hc;obtain⟨zv,hzr,hzV,i',hi',hzi⟩:=iB (w:=w) (σ:=σ) hz;rw[hi] at hi';cases hi'
      have hzl:zv.cells.size=i.size:=by have:=hzV.cells.1;simp at this;omega
      have hrep:=De hzV.cells i5 c0;rw[q4] at hrep;have w1:IntKind.i64.wrap (l0:Int)=(l0:Int):=wrap_small _ i5;have w2:IntKind.i64.wrap (c0:Int)=(c0:Int):=wrap_small _ i5
      have hbc0:i.bytes*c0<=10000000000:=by have:=bw q3 q2;omega
      have hbc:(i.bytes:Int)*(c0:Int)<=10000000000:=by rw[<-b7];omega
      refine⟨_,e,?_,hrep,q1,by rw[fY,q4]⟩;simp only[Instr.makeSlice,pp,aN hu,qr,asInt,hk1,hk2,ne,cW hi,w1,w2]
      have g1:¬((decide ((c0:Int)<0)||decide ((i.bytes:Int)*(c0:Int)>2^48))||decide ((l0:Int)<0)||decide ((l0:Int)>(c0:Int)))=true:=by
       simp only[b8,wp,not_or];refine⟨⟨⟨by omega,by omega⟩,by omega⟩,by omega⟩
      rw[v6 g1];simp only[pp,run_askRoom,qr,bM (show cw P e=some i.size by simp[cw,hi]),ba];by_cases h0:c0*i.size=0
      ·have hr0:cb 0=(#[]:Array Nat):=rfl;simp only[h0,if_true,pp,ne,qr,newRow,run_newObj];simp[hr0]
      ·simp only[h0,if_false,pp,hzr,qr,ne,newRow,run_newObj,hzl]
 ·simp at h
def lU:AO->Bool
 | .cells _ _=>true
 | .ro _=>true
 | _=>false
def cf{P:Program}{w:World}{r:Nat}{o:Obj}(h:w.heap[r]?=some o)(hn:∀c e f,o≠.cells c e f):(getObj r).run P w=.ok o w:=by
 simp only[getObj,Sem.run,h]
 try (split<;>simp_all)
 try (cases o<;>simp_all [Sem.run])
def eg{P:Program}{w:World}{r:Nat}{o o':Obj}(h:w.heap[r]?=some o)(hn:∀c e f,o≠.cells c e f):(setObj r o').run P w=.ok () { w with heap:=w.heap.setIfInBounds r o' }:=by
 simp only[setObj,Sem.run,h]
 try (split<;>simp_all)
 try (cases o<;>simp_all [Sem.run])
def HR.jM{σ:Sg}{h:H}{w:World}(hr:HR σ h w){id:Nat}{p:sE}{o o':AO}{ob:Obj}(ho:h.aU.get id=some o)(hc:lU o=false)(hc':lU o'=false)(hp:σ id=some p)
 (hor:OR σ o' p (some ob)):HR σ (h.set id o') { w with heap:=w.heap.setIfInBounds p.b ob }/\Ext σ σ h (h.set id o') w { w with heap:=w.heap.setIfInBounds p.b ob }:=by
 have hlt:=hr.lt ho hp;refine hr.update (o':=o') ho hp ?_ rfl ?_ ?_ ?_ gt rfl rfl rfl (dK _ _).1 ?_ (λcs f e=>by subst e;simp[lU] at hc') (λcs e=>by subst e;simp[lU] at hc)
 ·intro j x hx;simp only[H.set,dw] at hx;split at hx
  ·rename_i e;cases hx;exact .inl ⟨e,rfl⟩
  ·rename_i hne;refine .inr ⟨hne,hx,?_⟩;intro q hq hb
   rcases hr.sep j id x o q p hne hx ho hq hp hb with⟨cs,cs',f,e1,e2⟩ | ⟨cs,cs',e1,e2⟩<;>(rw[e2] at hc;simp[lU] at hc)
 ·intro i cs f hi;simp only[H.set,dw] at hi;split at hi
  ·cases hi;simp[lU] at hc'
  ·exact hr.bO i cs f hi
 ·simp only[a9];simp only[if_true,hlt];exact hor
 ·intro b hb;simp only[a9];rw[v6 (λe=>hb e.symm)]
 ·intro j hj hjn;have:=dK h.low id;simp only[H.set] at hj ⊢;rw[bp _ _ i5]
def HR.map{σ:Sg}{h:H}{w:World}(hr:HR σ h w){id:Nat}{p:sE}{es:List (AV×AV×Nat)}{c:Nat}(hm:h.mapOf id=some (es,c))(hp:σ id=some p):
 h.aU.get id=some (.map es c)/\∃es':Array MapEntry,w.heap[p.b]?=some (.map es' c)/\EL σ es es'.toList:=by
 unfold H.mapOf at hm;split at hm
 ·rename_i es0 c0 ho;simp only[rc,m9] at hm;obtain⟨rfl,rfl⟩:=hm;obtain⟨q,hq,es',h1,h2,h3⟩:=hr.obj id _ ho;rw[hp] at hq;cases hq;exact⟨ho,es',h1,by simpa using h2,λi e m he hm=>h3 i e m he (by simpa using hm)⟩
 ·simp at hm
def EL.get{σ:Sg}{es:List (AV×AV×Nat)}{l:List MapEntry}(h:EL σ es l){i:Nat}{e:AV×AV×Nat}(he:es[i]?=some e):∃m,l[i]?=some m/\ER σ e m:=by
 have hi:i<es.length:=by
  rcases aR i es.length with h | h
  ·exact h
  ·simp[ad h] at he
 have hl:i<l.length:=h.1▸hi;exact⟨l[i],li hl,h.2 i e _ he (li hl)⟩
def EL.append{σ:Sg}{es fs:List (AV×AV×Nat)}{l k:List MapEntry}(h:EL σ es l)(g:EL σ fs k):EL σ (es++fs) (l++k):=by
 refine⟨by simp[h.1,g.1],?_⟩;intro i x y hx hy;rw[ap] at hx hy;have e:=h.1;by_cases hi:i<es.length
 ·rw[ut hi] at hx;rw[ut i5] at hy;exact h.2 i x y hx hy
 ·rw[v6 hi] at hx;rw[v6 i5,<-e] at hy;exact g.2 _ x y hx hy
def EL.one{σ:Sg}{e:AV×AV×Nat}{m:MapEntry}(h:ER σ e m):EL σ [e] [m]:=
 ⟨rfl,λi x y hx hy=>by
  cases i with
  | zero=>simp at hx hy;subst hx;subst hy;exact h
  | succ i=>simp at hx⟩
def tV(x:AV×AV×Nat):∀(es:List (AV×AV×Nat)) (i:Nat),(setAt x es i).length=es.length
 | [],i=>by simp[setAt]
 | e::es,0=>by simp[setAt]
 | e::es,i+1=>by simp[setAt,tV x es i]
def B1(x:AV×AV×Nat):∀(es:List (AV×AV×Nat)) (i j:Nat),i<es.length->(setAt x es i)[j]?=if j=i then some x else es[j]?
 | [],i,j,h=>by simp at h
 | e::es,0,j,h=>by cases j<;>simp[setAt]
 | e::es,i+1,j,h=>by
  cases j with
  | zero=>simp[setAt]
  | succ j=>simp only[setAt,ax,B1 x es i j (by simpa using h)];by_cases hj:j=i<;>simp[hj]
def EL.set{σ:Sg}{es:List (AV×AV×Nat)}{l:Array MapEntry}(h:EL σ es l.toList){i:Nat}{x:AV×AV×Nat}{f:MapEntry->MapEntry}(hi:i<es.length)(hf:∀m,l.toList[i]?=some m->ER σ x (f m)):
 EL σ (setAt x es i) (l.modify i f).toList:=by
 refine⟨by rw[tV];have:=h.1;simpa using this,?_⟩;intro j e m he hm;rw[B1 x es i j hi] at he
 have hm':(l.modify i f)[j]?=some m:=by rw[<-Array.getElem?_toList];exact hm
 rw[bo] at hm';by_cases hj:j=i
 ·subst hj;rw[ut rfl] at he hm';simp only[rc] at he;subst he
  cases hl:l[j]? with
  | none=>simp[hl] at hm'
  | some m0=>
   simp only[hl,m7,rc] at hm';subst hm';exact hf m0 (by simpa using hl)
 ·rw[v6 hj] at he;rw[v6 (λe=>hj e.symm)] at hm';exact h.2 j e m he (by simpa using hm')
def kT{P:Program}{t k e:TypeId}(h:dn P t=some (k,e)):P.underlying t=some (.map k e):=by
 unfold dn at h;split at h
 ·rename_i h1;simp only[rc,m9] at h;obtain⟨rfl,rfl⟩:=h;exact h1
 ·simp at h
def CQ{P:Program}{t:TypeId}{k:AV}(h:wH P t k=true):∃d,P.underlying t=some d:=by
 simp only[wH,EH] at h
 cases hu:P.underlying t with
 | none=>simp[hu] at h
 | some d=>exact⟨d,rfl⟩
def Fw{P:Program}{σ:Sg}{h:H}{w:World}(hr:HR σ h w){t:TypeId}{x k r:AV}{v u:Value}{ok:Bool}(hl:rh P h t x k ok=some r)(hv:V σ x v)(hk:V σ k u):
 ∃z,(Instr.lookup t v u ok).run P w=.ok z w/\V σ r z:=by
 unfold rh at hl
 cases hm:dn P t with
 | none=>simp[hm] at hl
 | some q=>
  obtain⟨kt,et⟩:=q;simp only[hm,m8] at hl;obtain⟨hka,hl9⟩:=aG hl;clear hl;have hu:=kT hm;obtain⟨kd,hkd⟩:=CQ hka
  have main:∀(es:List (AV×AV×Nat)) (es':Array MapEntry),EL σ es es'.toList->
   (∀(r0:Option (Nat×Value)) (z:Value) (b:Bool),(Instr.findKey kt u es'.toList).run P w=.ok r0 w->
    (match r0 with | some q=>z=q.2/\b=true | none=>(zeroValue et).run P w=.ok z w/\b=false)->
    (Instr.lookup t v u ok).run P w=.ok (if ok then .tuple #[z,.bool b] else z) w)->
   ((
    gN P kt k es 0).bind λr=>
    ((
     match r with
     | some i=>(es[i]?).map λe=>(e.2.1,true)
     | none=>(de P et).map λz=>(z,false):Option (AV×Bool))).map λ(v,b)=>cond ok (AV.cm [v,.bool b]) v)=some r->
   ∃z,(Instr.lookup t v u ok).run P w=.ok z w/\V σ r z:=by
   intro es es' hel hget h
   cases hf:gN P kt k es 0 with
   | none=>simp[hf] at h
   | some r0=>
    simp only[hf,m8] at h;have hfind:=nk (w:=w) hkd hk hf hel
    have fin:∀(a:AV) (b:Bool) (z:Value),V σ a z->(cond ok (AV.cm [a,.bool b]) a)=r->V σ r (if ok then .tuple #[z,.bool b] else z):=by
     intro a b z hz e;subst e;cases ok
     ·exact hz
     ·exact .fV (.cons hz (.cons (.bool b) .nil))
    cases r0 with
    | some i=>
     cases he:es[i]? with
     | none=>simp[he] at h
     | some e=>
      simp only[he,m7,rc] at h;obtain⟨m,hm1,hm2⟩:=hel.get he;refine⟨_,hget _ m.val true hfind ?_,fin _ _ _ hm2.2.1 h⟩;simp[found,hm1]
    | none=>
     cases hz:de P et with
     | none=>simp[hz] at h
     | some z=>
      simp only[hz,m7,rc] at h;obtain⟨zv,hzr,hzV,_⟩:=iB (w:=w) (σ:=σ) hz;exact⟨_,hget _ zv false hfind ⟨hzr,rfl⟩,fin _ _ _ hzV h⟩
  split at hl9
  ·cases hv;refine main [] #[] ⟨rfl,λi e m he _=>by simp at he⟩ ?_ hl9;intro r0 z b hf hz;simp only[Instr.lookup,pp,aN hu,qr,ne,jG hka hk,hf]
   cases r0 with
   | some q=>obtain⟨rfl,rfl⟩:=hz;rfl
   | none=>obtain⟨hz,rfl⟩:=hz;simp only[pp,hz,qr,ne]
  ·rename_i id
   cases hv with
   | map hp=>
    cases hmo:h.mapOf id with
    | none=>simp[hmo] at hl9
    | some q=>
     obtain⟨es,c⟩:=q;simp only[hmo,m7,m8] at hl9;obtain⟨_,es',h1,h2⟩:=hr.map hmo hp;refine main es es' h2 ?_ hl9;intro r0 z b hf hz;simp only[Instr.lookup,pp,aN hu,qr,cf h1 gt,ne,jG hka hk,hf]
     cases r0 with
     | some q=>obtain⟨rfl,rfl⟩:=hz;rfl
     | none=>obtain⟨hz,rfl⟩:=hz;simp only[pp,hz,qr,ne]
  ·simp at hl9
def yo{es:List (AV×AV×Nat)}{l:List MapEntry}{σ:Sg}(hel:EL σ es l){i:Nat}{e:AV×AV×Nat}(he:es[i]?=some e):∃m,l[i]?=some m/\ER σ e m/\found (some i) 0 l=some (i,m.val):=by
 obtain⟨m,h1,h2⟩:=hel.get he;exact⟨m,h1,h2,by simp[found,h1]⟩
def km{α:Type}{l:List α}{i:Nat}{x:α}(h:l[i]?=some x):i<l.length:=by
 rcases aR i l.length with h' | h'
 ·exact h'
 ·simp[ad h'] at h
def uF{σ:Sg}{es:List (AV×AV×Nat)}{es':Array MapEntry}{c:Nat}{p:sE}(h:EL σ es es'.toList):OR σ (.map es c) p (some (.map es' c)):=
 ⟨es',rfl,by have:=h.1;simpa using this,λi e m he hm=>h.2 i e m he (by simpa using hm)⟩
def qx{P:Program}{σ:Sg}{h h':H}{w:World}(hr:HR σ h w){t:TypeId}{x k a:AV}{v u z:Value}(hl:ko P h t x k a=some h')(hv:V σ x v)(hk:V σ k u)(ha:V σ a z):
 ∃w',(Instr.mapUpdate t v u z).run P w=.ok () w'/\HR σ h' w'/\Ext σ σ h h' w w':=by
 unfold ko at hl
 cases hm:dn P t with
 | none=>simp[hm] at hl
 | some q=>
  obtain⟨kt,et⟩:=q;simp only[hm,m8] at hl;obtain⟨hka,hl9⟩:=aG hl;clear hl;have hu:=kT hm;obtain⟨kd,hkd⟩:=CQ hka;split at hl9
  ·rename_i id
   cases hv with
   | @map _ p hp=>
    cases hmo:h.mapOf id with
    | none=>simp[hmo] at hl9
    | some q=>
     obtain⟨es,c⟩:=q;simp only[hmo,m8] at hl9;obtain⟨ho,es',h1,h2⟩:=hr.map hmo hp
     cases hf:gN P kt k es 0 with
     | none=>simp[hf] at hl9
     | some r0=>
      simp only[hf,m8] at hl9;have hfind:=nk (w:=w) hkd hk hf h2
      cases r0 with
      | some i=>
       cases he:es[i]? with
       | none=>simp[he] at hl9
       | some e=>
        simp only[he,m8] at hl9;obtain⟨hst,hl9⟩:=aG hl9;simp only[rc] at hl9;subst hl9;obtain⟨m,hm1,hm2,hfo⟩:=yo h2 he
        have hm1':es'[i]?=some m:=by simpa using hm1
        have hst':=B3 (P:=P) (w:=w) hst hk hm2.1
        have hel:EL σ (setAt (k,a,e.2.2) es i) (es'.modify i λm=>{ m with key:=u,val:=z }).toList:=
         h2.set (km he) (λm' hm'=>by rw[hm1] at hm';cases hm';exact⟨hk,ha,hm2.2.2⟩)
        obtain⟨g1,g2⟩:=hr.jM ho rfl rfl hp (uF (c:=c) (p:=p) hel);refine⟨_,?_,g1,g2⟩;simp only[Instr.mapUpdate,pp,aN hu,qr,cf h1 gt,jG hka hk,hfind,hfo,hm1',m7,cl,hst'];exact eg h1 gt
      | none=>
       simp only[rc] at hl9;subst hl9
       have hel:EL σ (es++[(k,a,c)]) (es'.push { key:=u,val:=z,born:=c }).toList:=by
        rw[cd];exact h2.append (.one ⟨hk,ha,rfl⟩)
       obtain⟨g1,g2⟩:=hr.jM ho rfl rfl hp (uF (c:=c+1) (p:=p) hel);refine⟨_,?_,g1,g2⟩;simp only[Instr.mapUpdate,pp,aN hu,qr,cf h1 gt,jG hka hk,hfind,found];exact eg h1 gt
  ·simp at hl9
def AI{P:Program}{σ:Sg}{h h':H}{w:World}(hr:HR σ h w){t:TypeId}{x k r:AV}{v u:Value}(hl:vb P h t x k=some (r,h'))(hv:V σ x v)(hk:V σ k u):
 ∃z w',(Instr.mapEntry t v u).run P w=.ok z w'/\V σ r z/\HR σ h' w'/\Ext σ σ h h' w w':=by
 unfold vb at hl
 cases hm:dn P t with
 | none=>simp[hm] at hl
 | some q=>
  obtain⟨kt,et⟩:=q;simp only[hm,m8] at hl;obtain⟨hka,hl9⟩:=aG hl;clear hl;have hu:=kT hm;obtain⟨kd,hkd⟩:=CQ hka;split at hl9
  ·rename_i id
   cases hv with
   | @map _ p hp=>
    cases hmo:h.mapOf id with
    | none=>simp[hmo] at hl9
    | some q=>
     obtain⟨es,c⟩:=q;simp only[hmo,m8] at hl9;obtain⟨ho,es',h1,h2⟩:=hr.map hmo hp
     cases hf:gN P kt k es 0 with
     | none=>simp[hf] at hl9
     | some r0=>
      simp only[hf,m8] at hl9;have hfind:=nk (w:=w) hkd hk hf h2
      cases r0 with
      | some i=>
       cases he:es[i]? with
       | none=>simp[he] at hl9
       | some e=>
        simp only[he,m8] at hl9;obtain⟨hst,hl9⟩:=aG hl9;simp only[rc,m9] at hl9;obtain⟨rfl,rfl⟩:=hl9;obtain⟨m,hm1,hm2,hfo⟩:=yo h2 he
        have hm1':es'[i]?=some m:=by simpa using hm1
        have hst':=B3 (P:=P) (w:=w) hst hk hm2.1
        have hel:EL σ (setAt (k,e.2.1,e.2.2) es i) (es'.modify i λm=>{ m with key:=u }).toList:=
         h2.set (km he) (λm' hm'=>by rw[hm1] at hm';cases hm';exact⟨hk,hm2.2.1,hm2.2.2⟩)
        obtain⟨g1,g2⟩:=hr.jM ho rfl rfl hp (uF (c:=c) (p:=p) hel);refine⟨.tuple #[m.val,goInt m.born],_,?_,?_,g1,g2⟩
        ·simp only[Instr.mapEntry,pp,aN hu,qr,cf h1 gt,jG hka hk,hfind,hfo,hm1',m7,cl,hst',eg h1 gt,ne]
        ·rw[hm2.2.2];exact .fV (.cons hm2.2.1 (.cons (.int _ _) .nil))
      | none=>
       cases hz:de P et with
       | none=>simp[hz] at hl9
       | some z=>
        simp only[hz,m7,rc,m9] at hl9;obtain⟨rfl,rfl⟩:=hl9;obtain⟨zv,hzr,hzV,_⟩:=iB (w:=w) (σ:=σ) hz
        have hel:EL σ (es++[(k,z,c)]) (es'.push { key:=u,val:=zv,born:=c }).toList:=by
         rw[cd];exact h2.append (.one ⟨hk,hzV,rfl⟩)
        obtain⟨g1,g2⟩:=hr.jM ho rfl rfl hp (uF (c:=c+1) (p:=p) hel);refine⟨.tuple #[zv,goInt c],_,?_,.fV (.cons hzV (.cons (.int _ _) .nil)),g1,g2⟩;simp only[Instr.mapEntry,pp,aN hu,qr,cf h1 gt,jG hka hk,hfind,found,hzr,eg h1 gt,ne]
  ·simp at hl9
def sb{b:Nat}:∀(es:List (AV×AV×Nat)) (k i:Nat),j6 b es k=some i->k<=i/\i<k+es.length/\(∃e,es[i-k]?=some e/\e.2.2=b)/\∀j,j<i-k->∀e,es[j]?=some e->e.2.2≠b
 | [],k,i,h=>by simp[j6] at h
 | e::es,k,i,h=>by
  simp only[j6] at h;cases hb:beq e.2.2 b
  ·rw[hb,az] at h;obtain⟨h1,h2,⟨x,h3,h4⟩,h5⟩:=sb es (k+1) i h;refine⟨by omega,by simp;omega,⟨x,?_,h4⟩,?_⟩
   ·rw[show i-k=(i-(k+1))+1 by omega,ax];exact h3
   ·intro j hj y hy
    cases j with
    | zero=>simp at hy;subst hy;exact gZ hb
    | succ j=>exact h5 j i5 y (by simpa using hy)
  ·rw[hb,ar] at h;simp only[rc] at h;subst h;exact⟨ac _,by simp,⟨e,by simp,cP hb⟩,λj hj=>by omega⟩
def HI{b i:Nat}{σ:Sg}{es:List (AV×AV×Nat)}{l:Array MapEntry}(h:EL σ es l.toList)(hb:j6 b es 0=some i):l.findIdx? (λe=>(e.born:Int)==(b:Int))=some i:=by
 obtain⟨h1,h2,⟨x,h3,h4⟩,h5⟩:=sb es 0 i hb;obtain⟨m,hm1,hm2⟩:=h.get (i:=i) (by simpa using h3)
 have hi:i<l.size:=by have:=km hm1;simpa using this
 have hm1':l[i]=m:=by
  have:l[i]?=some m:=by simpa using hm1
  rw[a0 hi] at this;simpa using this
 rw[Array.findIdx?_eq_some_iff_getElem];refine⟨hi,?_,?_⟩
 ·rw[hm1'];have:=hm2.2.2;simp;omega
 ·intro j hj
  have hjl:j<es.length:=by have:=h.1;simp at this;omega
  have:=h5 j i5 _ (li hjl);have hr:=(h.2 j _ (l[j]' i5) (li hjl) gt).2.2;simp;omega
def wD{P:Program}{σ:Sg}{h h':H}{w:World}(hr:HR σ h w){t:TypeId}{x s a:AV}{v u z:Value}(hl:qh h x s a=some h')(hv:V σ x v)(hs:V σ s u)(ha:V σ a z):
 ∃w',(Instr.entryStore t v u z).run P w=.ok () w'/\HR σ h' w'/\Ext σ σ h h' w w':=by
 unfold qh at hl;split at hl
 ·rename_i id
  cases hv with
  | @map _ p hp=>
   cases hmo:h.mapOf id with
   | none=>simp[hmo] at hl
   | some q=>
    obtain⟨es,c⟩:=q;simp only[hmo,m8] at hl;obtain⟨ho,es',h1,h2⟩:=hr.map hmo hp
    cases hn:c7 s with
    | none=>simp[hn] at hl
    | some b=>
     simp only[hn,m8] at hl;obtain⟨k,rfl,hk⟩:=kq (P:=P) (w:=w) hn hs
     cases hb:j6 b es 0 with
     | none=>simp[hb] at hl
     | some i=>
      simp only[hb,m8] at hl
      cases he:es[i]? with
      | none=>simp[he] at hl
      | some e=>
       simp only[he,m7,rc] at hl;subst hl;obtain⟨m,hm1,hm2⟩:=h2.get he
       have hel:EL σ (setAt (e.1,a,e.2.2) es i) (es'.modify i λm=>{ m with val:=z }).toList:=
        h2.set (km he) (λm' hm'=>by rw[hm1] at hm';cases hm';exact⟨hm2.1,ha,hm2.2.2⟩)
       obtain⟨g1,g2⟩:=hr.jM ho rfl rfl hp (uF (c:=c) (p:=p) hel);refine⟨_,?_,g1,g2⟩;simp only[Instr.entryStore,pp,ne,qr,cf h1 gt,asInt,hk,HI h2 hb];exact eg h1 gt
 ·simp at hl
def Bv(n:Nat):∀(r c:Nat),c<=n+n/4+192->Builtin.growBy n r c<=n+n/4+192
 | 0,c,h=>by simpa [Builtin.growBy] using h
 | r+1,c,h=>by
  simp only[Builtin.growBy];split
  ·exact h
  ·exact Bv n r _ i5
def H7{n c:Nat}(h:c<n):Builtin.nextslicecap n c<=2*n+192:=by
 unfold Builtin.nextslicecap;split
 ·omega
 ·split
  ·omega
  ·have:=Bv n 4 c i5;omega
def mQ{P:Program}{σ:Sg}{h:H}{w:World}(hr:HR σ h w){o:Option (Nat×Nat)}{n len es s:Nat}{cap:Option Nat}{cs:List AV}{v:Value}(hc:cx h o n s=some cs)(hes:es=s\/n=0)(hn:n<=len)
 (hv:V σ (.slice o len es cap) v):∃vs,VL σ cs vs/\cs.length=n*s/\∀w',w'.heap=w.heap->(Builtin.firstCells s n v).run P w'=.ok vs.toArray w':=by
 unfold cx at hc
 cases o with
 | none=>
  obtain⟨h0,hc2⟩:=aG hc;clear hc;have:=cP h0;subst this;simp only[rc] at hc2;subst hc2;cases hv;exact⟨[],.nil,by simp,λw' _=>by simp[Builtin.firstCells]⟩
 | some q=>
  obtain⟨id,off⟩:=q;simp only at hc;cases h0:beq n 0
  ·rw[h0,az] at hc;have hn0:=gZ h0;have hes:=hes.resolve_right hn0;subst hes
   cases hv with
   | @slice _ _ _ _ _ a p c hp hl hroom hcap ha=>
    have ha:=ha.resolve_right i5;subst ha;obtain⟨vs,h1,h2,h3⟩:=hr.chunk hc hp;refine⟨vs,h1,h2,λw' hw'=>?_⟩
    have e:n*es=vs.length:=by rw[<-h1.1];exact h2.symm
    simp only[Builtin.firstCells];rw[e]
    exact nU λj v hv=>by rw[<-h3 j v hv];simp[World.cell?,hw']
  ·rw[h0,ar] at hc;have:=cP h0;subst this;simp only[rc] at hc;subst hc
   cases hv with
   | slice hp hl hroom hcap ha=>exact⟨[],.nil,by simp,λw' _=>by simp[Builtin.firstCells,loadCells,loadCellsFrom]⟩
def App(P:Program)(w:World)(e s:Nat)(xt:TypeId)(u:Value)(n:Nat)(vs:List Value):Prop:=
 ∃d,P.underlying xt=some d/\
  (
   ((∃k,d=.int k)/\∃k,u=.int k (n:Int)/\∃z,(zeroValue e).run P w=.ok z w/\(n*s≠0->Builtin.zeroCells z.cells n=vs.toArray)/\(n*s=0->vs=[]))\/
   ((∀k,d≠.int k)/\(Builtin.lenOf u).run P w=.ok n w/\(Builtin.firstCells s n u).run P w=.ok vs.toArray w))
def Au{P:Program}{σ:Sg}{h:H}{w:World}(hr:HR σ h w){e s:Nat}{xt:TypeId}{y:AV}{u:Value}{n:Nat}{cs:List AV}(hs0:s≠0)
 (ha:mc P h e s xt y=some (n,cs)) (hu:V σ y u):∃vs,VL σ cs vs/\cs.length=n*s/\∀w',w'.heap=w.heap->App P w' e s xt u n vs:=by
 unfold mc at ha;split at ha
 ·rename_i k hd
  cases hn:c7 y with
  | none=>simp[hn] at ha
  | some n0=>
   cases hz:de P e with
   | none=>simp[hn,hz] at ha
   | some z=>
    simp only[hn,hz,m8] at ha;obtain⟨hc,ha2⟩:=aG ha;clear ha;simp only[aa] at hc;have hzl:=cP hc.2;simp only[rc,m9] at ha2;obtain⟨rfl,rfl⟩:=ha2;obtain⟨zv,_,hzV,iz,hiz,hizz⟩:=iB (w:=w) (σ:=σ) hz;obtain⟨k1,rfl,hk1⟩:=kq (P:=P) (w:=w) hn hu
    have hzs:zv.cells.size=s:=by have:=hzV.cells.1;simp at this;omega
    have hrep:=De hzV.cells i5 n0;rw[hzl] at hrep;refine⟨_,hrep,by rw[fY,hzl],λw' _=>⟨_,hd,.inl ⟨⟨k,rfl⟩,k1,rfl,zv,by simp[zeroValue,cW hiz,hizz],?_,?_⟩⟩⟩
    ·intro _;simp only[Builtin.zeroCells,hzs]
    ·intro h0;rw[h0];simp
 ·rename_i d hnd hd;split at ha
  ·rename_i o m es cp;obtain⟨hc,ha2⟩:=aG ha;clear ha
   cases hsc:cx h o m s with
   | none=>simp[hsc] at ha2
   | some cs0=>
    simp only[hsc,m7,rc,m9] at ha2;obtain⟨rfl,rfl⟩:=ha2
    have hes:es=s\/m=0:=by
     simp only[b8] at hc
     rcases hc with hc | hc
     ·exact .inl (cP hc)
     ·exact .inr (cP hc)
    obtain⟨vs,h1,h2,h3⟩:=mQ (P:=P) hr hsc hes (ac _) hu;refine⟨vs,h1,h2,λw' hw'=>⟨d,hd,.inr ⟨λk e=>hnd k e,?_,h3 w' hw'⟩⟩⟩
    cases hu with
    | gT h0=>subst h0;rfl
    | slice hp hl hroom hcap ha=>rfl
  ·simp at ha
 ·simp at ha
def iY{P:Program}{w:World}{ats:Array TypeId}{T st xt e s:TypeId}{args:Array Value}{base:Option Addr}{u:Value}{len c n:Nat}{vs:List Value}{i:TypeInfo}
 (h0:ats[0]?=some st) (h1:ats[1]?=some xt) (h2:args[0]?=some (.slice base len c)) (h3:args[1]?=some u) (hst:P.underlying st=some (.slice e)) (hi:P.info? e=some i) (his:i.size=s) (hib:i.bytes<=10000)
 (happ:App P w e s xt u n vs) (hn:n<=1000000) (hle:len+n<=c):
 (Builtin.append_ ats T args).run P w=(match base with
  | some a=>((storeCells (a.add (len*s)) vs).run P w).andThen λ_ w'=>.ok (.slice base (len+n) c) w'
  | none=>.ok (.slice base (len+n) c) w):=by
 have hsz:(sizeOf e).run P w=.ok s w:=by simp[sizeOf,cW hi,his]
 obtain⟨d,hd,happ⟩:=happ
 rcases happ with⟨⟨k,rfl⟩,k2,rfl,z,hz,hz1,hz2⟩ | ⟨hk,hl,hf⟩
 ·have hw:=wrap_small n i5
  have hb:¬((n:Int)*(i.bytes:Int)>2^48):=by
   have:n*i.bytes<=1000000*10000:=bw hn hib;rw[<-b7]
   have e2:((2:Int)^48)=281474976710656:=by decide
   rw[e2];omega
  have hneg:¬((n:Int)<0):=by omega
  simp only[Builtin.append_,h0,h1,h2,h3,pp,aN hst,qr,hsz,aN hd,ne,if_true,asInt,asIntOf,hw,hneg,if_false,cW hi,hb,ba,hle,bv,af];by_cases hz0:n*s=0
  ·simp only[hz0,if_true,ne,qr,hz2 hz0];cases base<;>simp[storeCells]
  ·simp only[hz0,if_false,pp,hz,qr,ne,hz1 hz0];cases base<;>simp
 ·simp only[Builtin.append_,h0,h1,h2,h3,pp,aN hst,qr,hsz,aN hd,ne,af,if_false,hl,hle,if_true,ci,hf];cases base<;>simp
def Er{P:Program}{w:World}{ats:Array TypeId}{T st xt e s:TypeId}{args:Array Value}{base:Option Addr}{u z:Value}{len c n:Nat}{vs mi:List Value}{i:TypeInfo}
 (h0:ats[0]?=some st) (h1:ats[1]?=some xt) (h2:args[0]?=some (.slice base len c)) (h3:args[1]?=some u) (hst:P.underlying st=some (.slice e)) (hi:P.info? e=some i) (his:i.size=s) (hib:i.bytes<=10000)
 (happ:∀w',w'.heap=w.heap->App P w' e s xt u n vs) (hn:n<=1000000) (hln:len<=1000000) (hgt:c<len+n) (hzv:∀w',(zeroValue e).run P w'=.ok z w') (hold:∀w',w'.heap=w.heap->(Builtin.firstCells s len (.slice base len c)).run P w'=.ok mi.toArray w'):
 ∃(nc:Nat) (w1:World) (rest:Array Value),len+n<=nc/\w1.heap=w.heap/\w1.os=w.os/\w1.tape=w.tape/\w1.output=w.output/\
  (Builtin.append_ ats T args).run P w=.ok (.slice (some ⟨w.heap.size,0,none⟩) (len+n) nc) { w1 with heap:=w.heap.push (.cells (mi.toArray++vs.toArray++rest) e (0,0)) }/\rest.size=(nc-(len+n))*z.cells.size:=by
 have hsz:∀w',(sizeOf e).run P w'=.ok s w':=λw'=>by simp[sizeOf,cW hi,his]
 have hnle:¬(len+n<=c):=by omega
 have hcap:=H7 hgt
 have hroom:¬(Builtin.nextslicecap (len+n) c*i.bytes>2^48):=by
  have:Builtin.nextslicecap (len+n) c*i.bytes<=5000000*10000:=bw i5 hib;omega
 let w1:World:={ w with drawn:=w.drawn+1 }
 let nc:=(len+n)+(w.tape w.drawn (.appendCap (len+n) c e))%(2^63-(len+n))
 refine⟨nc,w1,Builtin.zeroCells z.cells (nc-(len+n)),Nat.le_add_right _ _,rfl,rfl,rfl,rfl,?_,by simp[Builtin.zeroCells]⟩;have hforced:(Question.appendCap (len+n) c e).forced=false:=rfl;have hcut:(Question.appendCap (len+n) c e).cut (w.tape w.drawn (.appendCap (len+n) c e))=nc:=rfl;have happ0:=happ w rfl;have happ1:=happ w1 rfl;have hold1:=hold w1 rfl;obtain⟨d,hd,happ0⟩:=happ0;obtain⟨d',hd',happ1⟩:=happ1;rw[hd] at hd';cases hd'
 have hint:∀(q:Bool),¬(((len+n:Nat):Int)>IntKind.i64.max/\q=true):=by
  intro q hq
  have e2:IntKind.i64.max=9223372036854775807:=by decide
  rw[e2] at hq;omega
 have hint':∀(q:Prop),¬(((len+n:Nat):Int)>IntKind.i64.max/\q):=by
  intro q hq
  have e2:IntKind.i64.max=9223372036854775807:=by decide
  rw[e2] at hq;omega
 rcases happ0 with⟨⟨k,rfl⟩,k2,rfl,z',hz,hz1,hz2⟩ | ⟨hk,hl,hf⟩
 ·have hzz:z'=z:=by have:=hzv w;rw[hz] at this;simpa using this
  subst hzz;have hw:=wrap_small n i5
  have hb:¬((n:Int)*(i.bytes:Int)>2^48):=by
   have:n*i.bytes<=1000000*10000:=bw hn hib;rw[<-b7]
   have e2:((2:Int)^48)=281474976710656:=by decide
   rw[e2];omega
  have hneg:¬((n:Int)<0):=by omega
  simp only[Builtin.append_,h0,h1,h2,h3,pp,aN hst,qr,hsz,aN hd,ne,if_true,asInt,asIntOf,hw,hneg,if_false,cW hi,hb,ba,hnle,bv,af,hint',hroom,run_choose,hforced,hcut,run_askRoom];show _=_;rw[hold1];simp only[qr];by_cases hz0:n*s=0
  ·simp only[hz0,if_true,ne,qr,hz2 hz0,hzv,newRow,pp,run_newObj];rfl
  ·simp only[hz0,if_false,pp,hzv,qr,ne,hz1 hz0,newRow,run_newObj];rfl
 ·rcases happ1 with⟨⟨k,rfl⟩,_⟩ | ⟨_,_,hf1⟩
  ·exact un rfl (hk k)
  simp only[Builtin.append_,h0,h1,h2,h3,pp,aN hst,qr,hsz,aN hd,ne,af,if_false,hl,hnle,if_true,ci,cW hi,hint',hroom,run_choose,hforced,hcut,run_askRoom];show _=_;rw[hold1];simp only[qr];rw[hf1];simp only[qr,pp,hzv,ne,newRow,run_newObj];rfl
def HR.fork{σ:Sg}{h:H}{w w':World}(hr:HR σ h w){id bO k:Nat}{bs cs':List AV}{p q:sE}(ho:h.aU.get id=some (.cells bs bO))(hp:σ id=some p)
 (hq:q.b=p.b\/w.heap.size<=q.b) (h1:OR σ (.cells (bs.take k) bO) p w'.heap[p.b]?) (h2:OR (up σ h.next q) (.cells cs' bO) q w'.heap[q.b]?)
 (hw:∀b,b<w.heap.size->b≠p.b->w'.heap[b]?=w.heap[b]?) (hsz:w.heap.size<=w'.heap.size) (e1:w'.os=w.os) (e2:w'.tape=w.tape) (e3:w'.output=w.output):
 HR (up σ h.next q) (h.en id bO (bs.take k) cs') w'/\Ext σ (up σ h.next q) h (h.en id bO (bs.take k) cs') w w':=by
 obtain⟨a1,a2,a3,a4,a5,a6,a7,a8⟩:=ng hr ho;have hnone:σ h.next=none:=hr.fresh _ (ac _);have hle:=oR (p:=q) hnone;have hidn:=hr.Ve ho
 have hget:∀j x,(h.en id bO (bs.take k) cs').aU.get j=some x->
  (j=h.next/\x=.cells cs' bO)\/(j=id/\x=.cells (bs.take k) bO)\/(j≠id/\j≠h.next/\h.aU.get j=some x/\(∀q,σ j=some q->q.b≠p.b)/\∀cs f,x=.cells cs f->f≠bO):=by
  intro j x hx;simp only[H.en] at hx;rw[dw,a4] at hx;split at hx
  ·rename_i e;cases hx;exact .inl ⟨e,rfl⟩
  ·rename_i hn;rw[dw] at hx;split at hx
   ·rename_i e;cases hx;exact .inr (.inl ⟨e,rfl⟩)
   ·rename_i hne;have hx':=a2 j x hx;refine .inr (.inr ⟨hne,hn,hx',?_,?_⟩)
    ·intro q' hq' hb;obtain⟨cs1,f1⟩:=(hr.sep j id x _ q' p hne hx' ho hq' hp hb).left;subst f1;exact hne (a3 j cs1 hx)
    ·intro cs f e hf;subst e;subst hf;exact hne (a3 j cs hx)
 have hup:∀j,j≠h.next->∀r,up σ h.next q j=some r->σ j=some r:=by
  intro j hj r hr';simpa [up,hj] using hr'
 refine⟨⟨?_,?_,?_,?_,?_⟩,⟨hle,by simp only[H.en];omega,hsz,e1,e2,e3,?_,?_,?_,?_,?_,?_⟩⟩
 ·intro j x hx
  rcases hget j x hx with⟨rfl,rfl⟩ | ⟨rfl,rfl⟩ | ⟨c1,c2,c3,c4,_⟩
  ·exact⟨q,eo _ _ _,h2⟩
  ·exact⟨p,hle _ _ hp,h1.mono hle⟩
  ·obtain⟨r,r1,r2⟩:=hr.obj j x c3;exact⟨r,hle _ _ r1,by rw[hw _ (hr.lt c3 r1) (c4 r r1)];exact r2.mono hle⟩
 ·intro j hj;simp only[H.en] at hj
  have:j≠h.next:=by omega
  simp[up,this,hr.fresh j i5]
 ·intro i j x y r s hij hx hy h3 h4 hb
  rcases hget i x hx with⟨rfl,rfl⟩ | ⟨rfl,rfl⟩ | ⟨c1,c2,c3,c4,_⟩
  ·rw[eo] at h3;cases h3
   rcases hget j y hy with⟨rfl,rfl⟩ | ⟨rfl,rfl⟩ | ⟨d1,d2,d3,d4,_⟩
   ·exact un rfl hij
   ·exact .inl ⟨_,_,_,rfl,rfl⟩
   ·have h4':=hup j d2 s h4;have:=hr.lt d3 h4';have:=d4 s h4'
    rcases hq with hq | hq<;>omega
  ·have h3':=hup i i5 r h3;rw[hp] at h3';cases h3'
   rcases hget j y hy with⟨rfl,rfl⟩ | ⟨rfl,rfl⟩ | ⟨d1,d2,d3,d4,_⟩
   ·exact .inl ⟨_,_,_,rfl,rfl⟩
   ·exact un rfl hij
   ·exact un hb.symm (d4 s (hup j d2 s h4))
  ·have h3':=hup i c2 r h3
   rcases hget j y hy with⟨rfl,rfl⟩ | ⟨rfl,rfl⟩ | ⟨d1,d2,d3,d4,_⟩
   ·rw[eo] at h4;cases h4;have:=hr.lt c3 h3';have:=c4 r h3'
    rcases hq with hq | hq<;>omega
   ·have h4':=hup j i5 s h4;rw[hp] at h4';cases h4';exact un hb (c4 r h3')
   ·exact hr.sep i j x y r s hij c3 d3 h3' (hup j d2 s h4) hb
 ·intro i cs f hi;have hfn:(h.en id bO (bs.take k) cs').next=(h.alone id bO).next+1:=rfl;have hff:(h.en id bO (bs.take k) cs').dy=(h.alone id bO).dy.put bO (some (id,(h.alone id bO).next)):=rfl;rw[hfn,hff]
  rcases hget i _ hi with⟨rfl,hx⟩ | ⟨rfl,hx⟩ | ⟨c1,c2,c3,c4,c5⟩
  ·cases hx;have:=(hr.bO id _ _ ho).1;exact⟨by omega,_,_,cV _ _ _,.inr a4.symm⟩
  ·cases hx;have:=(hr.bO i _ _ ho).1;exact⟨by omega,_,_,cV _ _ _,.inl rfl⟩
  ·obtain⟨b1,x,y,b2,b3⟩:=hr.bO i _ _ c3;have hne:=c5 cs f rfl;exact⟨by omega,x,y,by rw[bp _ _ hne,a6 f hne];exact b2,b3⟩
 ·have:=dK (h.alone id bO).low id;simp only[H.en];omega
 ·intro j x r hx hr'
  rcases hget j x hx with⟨rfl,rfl⟩ | ⟨rfl,rfl⟩ | ⟨c1,c2,c3,c4,_⟩
  ·rw[eo] at hr';cases hr'
   rcases hq with hq | hq
   ·exact .inr ⟨id,_,p,ho,hp,hq.symm,λ_ cs e=>by cases e⟩
   ·exact .inl hq
  ·exact .inr ⟨j,_,r,ho,hup j i5 r hr',rfl,λ_ cs e=>by cases e⟩
  ·exact .inr ⟨j,x,r,c3,hup j c2 r hr',rfl,λh=>h⟩
 ·intro b hb hn;exact hw b hb λe=>hn id _ p ho (λcs e=>by cases e) hp e.symm
 ·exact ay (dK _ _).1 a7
 ·intro j hj hjn;simp only[H.en] at hj ⊢;have:=dK (h.alone id bO).low id;rw[bp _ _ i5,bp _ _ i5];exact a8 j i5
 ·intro j hj hn;simp only[up];rw[v6 i5];exact hn
 ·intro j cs f hj
  rcases hget j _ hj with⟨rfl,hx⟩ | ⟨rfl,hx⟩ | ⟨c1,c2,c3,c4,c5⟩
  ·cases hx;exact .inr ⟨id,bs,ho⟩
  ·cases hx;exact .inr ⟨j,bs,ho⟩
  ·exact .inr ⟨j,cs,c3⟩
def Yields(P:Program)(σ:Sg)(h h':H)(w:World)(r:AV)(s:Sem Value):Prop:=
 ∃σ' z w',s.run P w=.ok z w'/\V σ' r z/\HR σ' h' w'/\Ext σ σ' h h' w w'
def vH(h:H)(cs:List AV):h.mI cs=(h.next,{ h.lay h.next (.cells cs h.next) with next:=h.next+1 }):=rfl
def HR.J1{σ:Sg}{h:H}{w w1:World}(hr:HR σ h w){aS:List AV}{vs:List Value}{c:Array Value}{e:TypeId}(hv:VL σ aS vs)(hc:c.toList.take vs.length=vs)
 (e1:w1.os=w.os) (e2:w1.tape=w.tape) (e3:w1.output=w.output):
 HR (up σ h.next ⟨w.heap.size,0,c.size⟩) { h.lay h.next (.cells aS h.next) with next:=h.next+1 } { w1 with heap:=w.heap.push (.cells c e (0,0)) }/\
 Ext σ (up σ h.next ⟨w.heap.size,0,c.size⟩) h { h.lay h.next (.cells aS h.next) with next:=h.next+1 } w { w1 with heap:=w.heap.push (.cells c e (0,0)) }:=
 hr.new (λcs f hf=>by cases hf;rfl) (Hj (hv.mono (oR (hr.fresh _ (ac _)))) hc) rfl e1 e2 e3
def Ep{P:Program}{σ:Sg}{h h':H}{w:World}(hr:HR σ h w){ats:Array TypeId}{T st xt:TypeId}{args:Array Value}{x y r:AV}{v u:Value}(ha:sK P h st xt x y=some (r,h'))
 (h0:ats[0]?=some st) (h1:ats[1]?=some xt) (h2:args[0]?=some v) (h3:args[1]?=some u) (hv:V σ x v) (hu:V σ y u):Yields P σ h h' w r (Builtin.append_ ats T args):=by
 unfold sK at ha;split at ha
 ·rename_i e o len es cap hst
  cases hi:P.info? e with
  | none=>simp[hi] at ha
  | some i=>
   cases hz:de P e with
   | none=>simp[hi,hz] at ha
   | some z=>
    simp only[hi,hz,m8] at ha;obtain⟨hc,ha2⟩:=aG ha;clear ha;simp only[aa] at hc;obtain⟨q1,q2,q3,q4⟩:=hc;have q1:=cP q1;have q3:=jg q3;have q4:=jg q4
    have q2:i.size≠0:=by intro e0;rw[e0] at q2;simp at q2
    cases hap:mc P h e i.size xt y with
    | none=>simp[hap] at ha2
    | some nc=>
     obtain⟨n,cs⟩:=nc;simp only[hap,m8] at ha2;obtain⟨vs,v1,v2,v3⟩:=Au hr q2 hap hu;obtain⟨zv,_,hzV,iz,hiz,hizz⟩:=iB (w:=w) (σ:=σ) hz
     have hzr:∀w',(zeroValue e).run P w'=.ok zv w':=λw'=>by simp[zeroValue,cW hiz,hizz]
     have hzs:zv.cells.size=i.size:=by have:=hzV.cells.1;simp at this;omega
     have hvl:=v1.1;cases hn0:beq n 0
     ·rw[hn0,az] at ha2;have hn0:=gZ hn0;obtain⟨hn6,ha3⟩:=aG ha2;clear ha2;have hn6:=jg hn6
      have grow:∀(base:Option Addr) (c:Nat) (mi:List AV) (olds:List Value) (bO:Nat),v=.slice base len c->c<len+n->VL σ mi olds->(∀w',w'.heap=w.heap->(Builtin.firstCells i.size len (.slice base len c)).run P w'=.ok olds.toArray w')->mi.length=len*i.size->
       ∃(nc:Nat) (w1:World) (rest:Array Value),len+n<=nc/\w1.heap=w.heap/\w1.os=w.os/\w1.tape=w.tape/\w1.output=w.output/\
        (Builtin.append_ ats T args).run P w=.ok (.slice (some ⟨w.heap.size,0,none⟩) (len+n) nc) { w1 with heap:=w.heap.push (.cells (olds.toArray++vs.toArray++rest) e (0,0)) }/\
        (olds.toArray++vs.toArray++rest).size=nc*i.size/\((olds.toArray++vs.toArray++rest).toList.take (olds++vs).length=olds++vs)/\bO=bO:=by
       intro base c mi olds bO hv0 hlt hvo hold hol;subst hv0;obtain⟨nc,w1,rest,g1,g2,g3,g4,g5,g6,g7⟩:=Er (T:=T) h0 h1 h2 h3 hst hi rfl q4 (λw' hw'=>v3 w' hw') hn6 q3 hlt hzr hold;refine⟨nc,w1,rest,g1,g2,g3,g4,g5,g6,?_,?_,rfl⟩
       ·have:=hvo.1;simp only[Array.size_append,List.size_toArray,g7,hzs]
        have e1:olds.length=len*i.size:=by omega
        have e2:vs.length=n*i.size:=by omega
        rw[e1,e2,<-b6,<-b6]
        congr 1;omega
       ·simp only[Array.toList_append];rw[List.take_left'];simp
      split at ha3
      ·simp only[vH,rc,m9] at ha3;obtain⟨rfl,rfl⟩:=ha3
       cases hv with
       | gT hl0=>
        subst hl0;obtain⟨nc,w1,rest,g1,g2,g3,g4,g5,g6,g7,g8,_⟩:=grow none 0 [] [] 0 rfl i5 .nil (λw' _=>by simp[Builtin.firstCells]) gt;obtain⟨k1,k2⟩:=hr.J1 (w1:=w1) (e:=e) (VL.append .nil v1) g8 g3 g4 g5;refine⟨_,_,_,g6,?_,k1,k2⟩;rw[Nat.zero_add] at g1 ⊢;exact .slice (eo _ _ _) g1 (by simp only[g7];omega) (λx hx=>by cases hx) (.inl rfl)
      ·rename_i id off;obtain⟨hes,ha4⟩:=aG ha3;clear ha3;have hes:=cP hes;subst hes
       cases hv with
       | @slice _ _ _ _ _ a p c hp hl hroom hcap haddr=>
        split at ha4
        ·rename_i c0;have:=hcap c0 rfl;subst this;cases hle:ble (len+n) c0
         ·rw[hle,az] at ha4;have hlt:=xe hle
          cases hsc:cx h (some (id,off)) len i.size with
          | none=>simp[hsc] at ha4
          | some mi=>
           simp only[hsc,m7,vH,rc,m9] at ha4;obtain⟨rfl,rfl⟩:=ha4;obtain⟨olds,o1,o2,o3⟩:=mQ (P:=P) (cap:=some c0) (v:=.slice (some a) len c0) hr hsc (.inl rfl) (ac _) (.slice hp hl hroom hcap haddr);obtain⟨nc,w1,rest,g1,g2,g3,g4,g5,g6,g7,g8,_⟩:=grow (some a) c0 mi olds 0 rfl hlt o1 o3 o2;obtain⟨k1,k2⟩:=hr.J1 (w1:=w1) (e:=e) (VL.append o1 v1) g8 g3 g4 g5;refine⟨_,_,_,g6,?_,k1,k2⟩;exact .slice (eo _ _ _) g1 (by simp only[g7];omega) (λx hx=>by cases hx) (.inl rfl)
         ·rw[hle,ar] at ha4;have hle:=jg hle
          cases hst2:h.store id (off+len*i.size) cs with
          | none=>simp[hst2] at ha4
          | some h9=>
           simp only[hst2,m7,rc,m9] at ha4;obtain⟨rfl,rfl⟩:=ha4;have haddr:=haddr.resolve_right i5;subst haddr;obtain⟨w',s1,s2,s3⟩:=hr.ry (P:=P) hst2 hp v1;refine⟨σ,.slice (some ⟨p.b,p.d+off,none⟩) (len+n) c0,w',?_,.slice hp hle hroom hcap (.inl rfl),s2,s3⟩;rw[iY h0 h1 h2 h3 hst hi rfl q4 (v3 w rfl) hn6 hle];simp only[gF];rw[bc,s1];rfl
        ·split at ha4
         ·rename_i bs bO ho;obtain⟨hlb,ha5⟩:=aG ha4;clear ha4;have hlb:=jg hlb;obtain⟨hone,ha6⟩:=aG ha5;clear ha5;simp only[rc,m9] at ha6;obtain⟨rfl,rfl⟩:=ha6;obtain⟨_,_,_,a4,_⟩:=ng hr ho;obtain⟨q',carr,e',hq',b1,b2,b3,b4⟩:=hr.cells ho;rw[hp] at hq';cases hq'
          have hsc:h.chunk id off (len*i.size)=some ((bs.drop off).take (len*i.size)):=by
           simp[H.chunk,ho,eY hlb]
          obtain⟨olds,o1,o2,o3⟩:=hr.chunk hsc hp;by_cases hin:len+n<=c
          ·have haddr:=haddr.resolve_right i5;subst haddr;have hmul:(len+n)*i.size<=c*i.size:=bi _ hin;have hmul2:(len+n)*i.size=len*i.size+n*i.size:=b6 _ _ _;obtain⟨w',c',hrun,hw',hsz,hget,hoth,s1,s2,s3,s4⟩:=mN (P:=P) (o:=p.d+off+len*i.size) vs 0 w carr b1 i5 (v1.jS hone)
           have hcl:∀j:Nat,j<off+len*i.size->c'[p.d+j]?=carr[p.d+j]?:=by
            intro j hj;rw[hget,v6 i5]
           obtain⟨k1,k2⟩:=hr.fork (w':=w') (k:=off+len*i.size) (cs':=(bs.drop off).take (len*i.size)++cs) (q:=⟨p.b,p.d+off,p.r-off⟩) ho hp (.inl rfl)
            (by
             refine⟨c',e',hw',by rw[hsz];exact b2,by simp;omega,?_⟩;intro j aj haj;rw[am] at haj;split at haj
             ·rename_i hj;obtain⟨vj,e1,e2⟩:=b4 j aj haj;exact⟨vj,by rw[hcl j hj];exact e1,e2⟩
             ·cases haj)
            (by
             refine⟨c',e',hw',by rw[hsz];simp only;omega,by simp only[md,o2,v2];omega,?_⟩;intro j aj haj;rw[ap,o2] at haj;have hle':=oR (p:=⟨p.b,p.d+off,p.r-off⟩) (hr.fresh h.next (ac _));split at haj
             ·rename_i hj;rw[am,ut hj,bb] at haj;obtain⟨vj,e1,e2⟩:=b4 _ aj haj;exact⟨vj,by simp only;rw[show p.d+off+j=p.d+(off+j) by omega,hcl _ i5];exact e1,e2.mono hle'⟩
             ·rename_i hj;obtain⟨vj,e1,e2⟩:=v1.get haj;have hjl:=km e1;refine⟨vj,?_,e2.mono hle'⟩;simp only;rw[hget,ut i5,show p.d+off+j-(p.d+off+len*i.size+0)=j-len*i.size by omega]
              exact e1)
            (λb _ hb=>hoth b hb) i5 s2 s3 s4
           refine⟨_,.slice (some ⟨p.b,p.d+off,none⟩) (len+n) c,w',?_,?_,k1,k2⟩
           ·rw[iY h0 h1 h2 h3 hst hi rfl q4 (v3 w rfl) hn6 hin];simp only[gF];rw[hrun];rfl
           ·rw[a4];exact .slice (eo _ _ _) hin (by simp only;omega) (λx hx=>by cases hx) (.inl gt)
          ·have hlt:c<len+n:=by omega
           have hfc:∀w',w'.heap=w.heap->(Builtin.firstCells i.size len (.slice (some a) len c)).run P w'=.ok olds.toArray w':=by
            intro w' hww;by_cases hl0:len=0
            ·subst hl0
             have:olds=[]:=by
              have:=o1.1;rw[o2] at this;simp at this;exact be this.symm
             subst this;simp[Builtin.firstCells,loadCells,loadCellsFrom]
            ·have haddr:=haddr.resolve_right i5;subst haddr
             have el:len*i.size=olds.length:=by rw[<-o1.1];exact o2.symm
             simp only[Builtin.firstCells];rw[el]
             exact nU λj vj hj=>by rw[<-o3 j vj hj];simp[World.cell?,hww]
           obtain⟨nc,w1,rest,g1,g2,g3,g4,g5,g6,g7,g8,_⟩:=grow (some a) c _ olds 0 rfl hlt o1 hfc o2;have hor:=Hj (id:=bO) (b:=w.heap.size) (e:=e) (VL.append (o1.mono (oR (p:=⟨w.heap.size,0,(olds.toArray++vs.toArray++rest).size⟩) (hr.fresh h.next (ac _)))) (v1.mono (oR (hr.fresh h.next (ac _))))) g8;have hltp:=hr.lt ho hp
           obtain⟨k1,k2⟩:=hr.fork (w':={ w1 with heap:=w.heap.push (.cells (olds.toArray++vs.toArray++rest) e (0,0)) }) (k:=off+len*i.size) (q:=⟨w.heap.size,0,(olds.toArray++vs.toArray++rest).size⟩) ho hp (.inr (ac _))
            (by
             simp only[bJ];rw[v6 i5,b1];refine⟨carr,e',rfl,b2,by simp;omega,?_⟩;intro j aj haj;rw[am] at haj;split at haj
             ·exact b4 j aj haj
             ·cases haj)
            (by simpa using hor)
            (λb hb _=>by simp only[bJ];rw[v6 i5]) gt g3 g4 g5
           refine⟨_,_,_,g6,?_,k1,k2⟩;rw[a4];exact .slice (eo _ _ _) g1 (by simp only[g7];omega) (λx hx=>by cases hx) (.inl rfl)
         ·simp at ha4
     ·rw[hn0,ar] at ha2;have:=cP hn0;subst this;simp only[rc,m9] at ha2;obtain⟨rfl,rfl⟩:=ha2
      have hvs:vs=[]:=by
       rw[v2] at hvl;simp at hvl;exact be hvl.symm
      subst hvs;refine⟨σ,v,w,?_,hv,hr,.refl _ _ _⟩
      cases hv with
      | gT hl0=>
       subst hl0;rw[iY h0 h1 h2 h3 hst hi rfl q4 (v3 w rfl) i5 i5]
      | slice hp hl hroom hcap haddr=>
       rw[iY h0 h1 h2 h3 hst hi rfl q4 (v3 w rfl) i5 i5];simp[storeCells]
 ·simp at ha
end
end Go.Ev
