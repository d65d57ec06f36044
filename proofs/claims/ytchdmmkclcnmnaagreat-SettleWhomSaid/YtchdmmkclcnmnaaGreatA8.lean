/- Lemmas of this claim, each with its conditions. -/
import Derived.Test.YtchdmmkclcnmnaaGreatA7
import Derived.Test.YtchdmmkclcnmnaaGreatA1
import Derived.Deep.Slices
import Derived.Deep.Strs
set_option linter.all false
open Nat (beq blt ble)
open List (mem_range mapM mem_map)
open List renaming getElem?_eq_getElem -> aa, getElem?_cons_succ -> ac, getElem?_eq_none -> ad, getElem?_append_right -> af, getElem?_append_left -> aj, any_cons -> ax, mem_cons_self -> ay, mem_cons_of_mem -> a9, flatten_cons -> ba, getElem?_cons_zero -> bb, getElem?_map -> bi, length_map -> bw, range -> bx, mapM_cons -> bN
open Nat renaming add_sub_cancel_left -> ap, sub_self -> bc, le_refl -> be, add_zero -> bk, sub_zero -> bo, succ_mul -> bs, zero_add -> bt, add_assoc -> b0, le_trans -> b4
open Bool renaming or_eq_false_iff -> bd, or_assoc -> bh, and_eq_true -> bv
namespace Go.Ev
theorem iN.v{P:Program}{ro:Option Nat}{all:List Oper}{o:Oper}{l:List Oper}{f:Nat->AV}{n:Nat}{h h':H}{ds:List iV}{K:gq->Prop}{d:Nat}{op:Op}{v:AV}(hop:o.op=op)(hdst:o.dst=some d)(hw:ke all f n o=some true)(hnd:rz op=true)(hd:blt d n=true)
 (ho:eg P (dj f n) h op=some [(some v,h')]) (hk:iN P ro all l ⟨AU f d v,n,h',ds⟩ K):iN P ro all (o::l) ⟨f,n,h,ds⟩ K:=by
 refine .cons hw (.run (by rw[hop];exact hnd) (by rw[hdst];exact hd) (by rw[hop];exact ho) ?_);intro x hx;rw[List.mem_singleton.1 hx,hdst];exact hk
theorem iN.u{P:Program}{ro:Option Nat}{all:List Oper}{o:Oper}{l:List Oper}{f:Nat->AV}{n:Nat}{h h':H}{ds:List iV}{K:gq->Prop}{op:Op}(hop:o.op=op)(hdst:o.dst=none)(hw:ke all f n o=some true)(hnd:rz op=true)
 {r:Option AV} (ho:eg P (dj f n) h op=some [(r,h')]) (hk:iN P ro all l ⟨f,n,h',ds⟩ K):iN P ro all (o::l) ⟨f,n,h,ds⟩ K:=by
 refine .cons hw (.run (by rw[hop];exact hnd) (by rw[hdst];rfl) (by rw[hop];exact ho) ?_);intro x hx;rw[List.mem_singleton.1 hx,hdst];exact hk
theorem iN.s{P:Program}{ro:Option Nat}{all:List Oper}{o:Oper}{l:List Oper}{f:Nat->AV}{n:Nat}{h:H}{ds:List iV}{K:gq->Prop}{d:Nat}(hdst:o.dst=some d)(hw:ke all f n o=some false)(hd:blt d n=true)
 (hk:iN P ro all l ⟨AU f d kn,n,h,ds⟩ K):iN P ro all (o::l) ⟨f,n,h,ds⟩ K:=by
 refine .skip hw (by rw[hdst];exact hd) ?_;rw[hdst];exact hk
theorem iN.c{P:Program}{ro:Option Nat}{all:List Oper}{o:Oper}{l:List Oper}{f:Nat->AV}{n:Nat}{h:H}{ds:List iV}{K:gq->Prop}{d:Nat}{c:Call}{g:Fn}{xs cap ys:List AV}{Q:AV->H->Prop}(hop:o.op=.call c)(hdst:o.dst=some d)(hw:ke all f n o=some true)(hdy:lj (.call c)=true)(hd:blt d n=true)
 (hc:pg P (dj f n) c=some (g,xs,cap)) (hys:xs++cap=ys) (hq:dC P g ys h Q) (hk:∀v h',Q v h'->iN P ro all l ⟨AU f d v,n,h',ds⟩ K):iN P ro all (o::l) ⟨f,n,h,ds⟩ K:=by
 subst hys;refine .cons hw (.call hop hdy (by rw[hdst];exact hd) hc hq ?_);intro v h' hv;rw[hdst];exact hk v h' hv
def eU(a b:Int):rZ a b=decide (a<=b):=by
 unfold rZ
 rcases hb:b-a with m | m
 ·have h2:b-a=(m:Int):=hb
  have:a<=b:=by omega
  simp[this]
 ·have h2:b-a = -((m:Int)+1):=by rw[hb,Int.negSucc_eq]
  have:¬a<=b:=by omega
  simp[this]
def not_le(a b:Int):(!decide (a<=b))=decide (b<a):=by
 by_cases h:a<=b
 ·have:¬b<a:=by omega
  simp[h,this]
 ·have:b<a:=by omega
  simp[h,this]
def yB(a b:Int):P0 a b=decide (a=b):=by
 unfold P0;rw[eU,eU];by_cases h:a=b
 ·subst h;simp
 ·have:¬(a<=b/\b<=a):=by omega
  simp only[h,decide_false];by_cases h1:a<=b
  ·have:¬b<=a:=by omega
   simp[this]
  ·simp[h1]
def mG:∀(a b:List Nat),uN a b=decide (a=b)
 | [],[]=>rfl
 | [],_::_=>rfl
 | _::_,[]=>rfl
 | x::a,y::b=>by
  have:=mG a b;simp only[uN,this];by_cases h:x=y
  ·subst h;simp
  ·have:beq x y=false:=by
    cases hb:beq x y
    ·rfl
    ·exact t8 (cU hb) h
   simp[this,h]
def xN{P:Program}{t:TypeId}{a b:Int}{k:IntKind}(hk:yV k k=true):cS P .lss t (.int k a) (.int k b)=some (.bool (decide (a<b))):=by
 simp only[cS,hk,ai,Dd,eU,not_le]
def tc{P:Program}{t:TypeId}{a b:Int}{k:IntKind}(hk:yV k k=true):cS P .leq t (.int k a) (.int k b)=some (.bool (decide (a<=b))):=by
 simp only[cS,hk,ai,Dd,eU]
def xM{P:Program}{t:TypeId}{a b:Int}{k:IntKind}(hk:yV k k=true):cS P .gtr t (.int k a) (.int k b)=some (.bool (decide (b<a))):=by
 simp only[cS,hk,ai,Dd,eU,not_le]
def xL{P:Program}{t:TypeId}{a b:Int}{k:IntKind}(hk:yV k k=true):cS P .geq t (.int k a) (.int k b)=some (.bool (decide (b<=a))):=by
 simp only[cS,hk,ai,Dd,eU]
def tb{P:Program}{t:TypeId}{a b:Int}{k:IntKind}(hk:yV k k=true):cS P .eql t (.int k a) (.int k b)=some (.bool (decide (a=b))):=by
 simp only[cS,hk,ai,Dd,yB]
def pa{P:Program}{t:TypeId}{a b:Int}{k:IntKind}(hk:yV k k=true):cS P .neq t (.int k a) (.int k b)=some (.bool (!decide (a=b))):=by
 simp only[cS,hk,ai,Dd,yB]
def q6{P:Program}{t:TypeId}{a b:Int}(h : -9223372036854775808<=a+b/\a+b<=9223372036854775807):cS P .add t (.int .i64 a) (.int .i64 b)=some (.int .i64 (a+b)):=by
 have h1:(rZ (-9223372036854775808) (a+b)&&rZ (a+b) 9223372036854775807)=true:=by
  rw[eU,eU];simp[h.1,h.2]
 simp only[cS,yV,ai,dO,N9,NW,h1]
def xP{P:Program}{t:TypeId}{a b:Int}(h : -9223372036854775808<=a-b/\a-b<=9223372036854775807):cS P .sub t (.int .i64 a) (.int .i64 b)=some (.int .i64 (a-b)):=by
 have h1:(rZ (-9223372036854775808) (a-b)&&rZ (a-b) 9223372036854775807)=true:=by
  rw[eU,eU];simp[h.1,h.2]
 simp only[cS,yV,ai,dO,N9,NW,h1]
def xO{P:Program}{t:TypeId}{a b:Int}(h : -9223372036854775808<=a*b/\a*b<=9223372036854775807):cS P .mul t (.int .i64 a) (.int .i64 b)=some (.int .i64 (a*b)):=by
 have h1:(rZ (-9223372036854775808) (a*b)&&rZ (a*b) 9223372036854775807)=true:=by
  rw[eU,eU];simp[h.1,h.2]
 simp only[cS,yV,ai,dO,N9,NW,h1]
def Fa{P:Program}{t:TypeId}{a b:List Nat}:cS P .eql t (.str a) (.str b)=some (.bool (decide (a=b))):=by
 simp only[cS,mG]
def Ff{P:Program}{t:TypeId}{a b:List Nat}:cS P .neq t (.str a) (.str b)=some (.bool (!decide (a=b))):=by
 simp only[cS,mG]
def Fe{P:Program}{t:TypeId}{a b:List Nat}:cS P .lss t (.str a) (.str b)=some (.bool (gJ a b)):=rfl
def Fb{P:Program}{t:TypeId}{a b:List Nat}:cS P .gtr t (.str a) (.str b)=some (.bool (!(gJ a b||uN a b))):=rfl
def td{P:Program}{t:TypeId}{a b:List Nat}:cS P .geq t (.str a) (.str b)=some (.bool (!gJ a b)):=rfl
def Fc{P:Program}{t:TypeId}{a b:List Nat}:cS P .leq t (.str a) (.str b)=some (.bool (gJ a b||uN a b)):=rfl
def pT:yV .i64 .i64=true:=rfl
def xq:yV .u8 .u8=true:=rfl
section
variable {P:Program} {t:Tr AV} {h:H}
def Qy{x:Operand}:eg P t h (.move x)=(ev t x).map λv=>[(some v,h)]:=rfl
def Mi{x:Operand}:eg P t h (.assign x)=(ev t x).map λv=>[(some v,h)]:=rfl
noncomputable def OJ(c a b:Option AV):Option AV:=match c,a,b with
 | some (.bool z),some x,some y=>some (_root_.cond z x y)
 | _,_,_=>none
def Qz{c a b:Operand}:eg P t h (.pick c a b)=(OJ (ev t c) (ev t a) (ev t b)).map λv=>[(some v,h)]:=by
 simp only[eg];unfold OJ;cases ha:ev t a<;>cases hb:ev t b<;>cases hc:ev t c<;>(try rfl)
 ·rename_i z;cases z<;>rfl
 ·rename_i z;cases z<;>rfl
 ·rename_i z;cases z<;>rfl
 ·rename_i z;cases z<;>(try rfl);rename_i b;cases b<;>rfl
def Ox{e:TypeId}:eg P t h (.alloc e)=(du P e).map λz=>[(some (.ptr (some (h.next,0))),{ h.lay h.next (.cells z.cells h.next) with next:=h.next+1 })]:=by
 simp only[eg,o6];cases du P e<;>rfl
def RJ{e:TypeId}{x:Operand}:eg P t h (.box e x)=(ev t x).map λv=>[(some (.ptr (some (h.next,0))),{ h.lay h.next (.cells v.cells h.next) with next:=h.next+1 })]:=by
 simp only[eg,o6];cases ev t x<;>rfl
def IW{tt:TypeId}:eg P t h (.makeMap tt none)=some [(some (.map (some h.next)),{ h.lay h.next (.map [] 0) with next:=h.next+1 })]:=rfl
def Bb{tt:TypeId}{n:Nat}{ps:Array (Nat×Operand)}:eg P t h (.buildSlice tt n ps)=((lL t ps.toList).bind λps=>(gU P tt n ps).map λq=>((.slice (some (h.next,0)) n q.1 (some n),.cells q.2 h.next):AV×AO)).map λx=>[(some x.1,{ h.lay h.next x.2 with next:=h.next+1 })]:=by
 simp only[eg,o6]
 cases hp:lL t ps.toList with
 | none=>rfl
 | some l=>cases hb:gU P tt n l<;>simp[hb]
def Oy{tt:TypeId}{ps:Array (Nat×Operand)}:eg P t h (.build tt ps)=((lL t ps.toList).bind λps=>uY P tt ps).map λv=>[(some v,h)]:=rfl
noncomputable def Dy(P:Program)(h:H)(tt:TypeId):Option AV->Option AV
 | some (.ptr (some (id,off)))=>h.load P tt id off
 | _=>none
def Qw{tt:TypeId}{a:Operand}:eg P t h (.load tt a)=(Dy P h tt (ev t a)).map λv=>[(some v,h)]:=by
 simp only[eg]
 cases ev t a with
 | none=>rfl
 | some v=>cases v<;>(try rfl);rename_i o;rcases o with _ | ⟨id,off⟩<;>rfl
def Cd{tt:TypeId}{id off:Nat}:Dy P h tt (some (.ptr (some (id,off))))=h.load P tt id off:=rfl
noncomputable def D5(P:Program)(h:H)(tt:TypeId):Option AV->Option AV->Option H
 | some (.ptr (some (id,off))),some x=>h.storeVar P tt id off x
 | _,_=>none
def OD{tt:TypeId}{a x:Operand}:eg P t h (.store tt a x)=(D5 P h tt (ev t a) (ev t x)).map λh=>[(none,h)]:=by
 simp only[eg]
 cases ev t a with
 | none=>rfl
 | some v=>cases v<;>(try rfl);rename_i o;rcases o with _ | ⟨id,off⟩<;>(try rfl);cases ev t x<;>rfl
def I7{tt:TypeId}{id off:Nat}{x:AV}:D5 P h tt (some (.ptr (some (id,off)))) (some x)=h.storeVar P tt id off x:=rfl
def IT{op:BinOp}{xt yt:TypeId}{x y:Operand}:eg P t h (.binOp op xt x y yt)=((ev t x).bind λx=>(ev t y).bind λy=>cS P op xt x y).map λv=>[(some v,h)]:=rfl
def SP{op:UnOp}{xt:TypeId}{x:Operand}:eg P t h (.unOp op xt x)=((ev t x).bind (R0 op)).map λv=>[(some v,h)]:=rfl
def Pq{b:Bool}:R0 .not (.bool b)=some (.bool (!b)):=rfl
def Qu{s d:TypeId}{x:Operand}:eg P t h (.convert s d x)=((ev t x).bind (mE P s d)).map λv=>[(some v,h)]:=rfl
def DL{s:TypeId}{x:Operand}{f:Nat}:eg P t h (.fieldAddr s x f)=((ev t x).bind λx=>jr P s x f).map λv=>[(some v,h)]:=rfl
def Oz{s:TypeId}{x:Operand}{f:Nat}:eg P t h (.field s x f)=((ev t x).bind λx=>vi P s x f).map λv=>[(some v,h)]:=rfl
def DM{s:TypeId}{x i:Operand}:eg P t h (.indexAddr s x i)=((ev t x).bind λx=>(ev t i).bind λi=>kL P s x i).map λv=>[(some v,h)]:=rfl
def OB{s:TypeId}{x i:Operand}:eg P t h (.index s x i)=((ev t x).bind λx=>(ev t i).bind λi=>vr P s x i).map λv=>[(some v,h)]:=rfl
def OC{tt:TypeId}{x:Operand}{lo hi mx:Option Operand}:eg P t h (.slice tt x lo hi mx)=((ev t x).bind λx=>(NJ t lo).bind λlo=>(NJ t hi).bind λhi=>(NJ t mx).bind λmx=>vQ P h tt x lo hi mx).map λv=>[(some v,h)]:=rfl
def Mj{tt:TypeId}{x k:Operand}{ok:Bool}:eg P t h (.lookup tt x k ok)=((ev t x).bind λx=>(ev t k).bind λk=>rm P h tt x k ok).map λv=>[(some v,h)]:=rfl
def DN{tt:TypeId}{m k x:Operand}:eg P t h (.mapUpdate tt m k x)=((ev t m).bind λm=>(ev t k).bind λk=>(ev t x).bind λx=>kQ P h tt m k x).map λh=>[(none,h)]:=rfl
def wC{tt:TypeId}{m k:Operand}:eg P t h (.mapEntry tt m k)=((ev t m).bind λm=>(ev t k).bind λk=>mA P h tt m k).map λx=>[(some x.1,x.2)]:=rfl
def Bc{tt:TypeId}{m s x:Operand}:eg P t h (.entryStore tt m s x)=((ev t m).bind λm=>(ev t s).bind λs=>(ev t x).bind λx=>lg h m s x).map λh=>[(none,h)]:=rfl
def Gu{tt:TypeId}{x:Operand}:eg P t h (.range tt x)=((ev t x).bind λx=>vN P h tt x).map λx=>[(some x.1,x.2)]:=rfl
def Gs{x:Operand}:eg P t h (.entry x)=((ev t x).bind λx=>ve h x).map λv=>[(some v,h)]:=rfl
noncomputable def BS(i:Nat):Option AV->Option AV
 | some (.bE vs)=>vs[i]?
 | _=>none
def IV{x:Operand}{i:Nat}:eg P t h (.extract x i)=(BS i (ev t x)).map λv=>[(some v,h)]:=by
 simp only[eg]
 cases ev t x with
 | none=>rfl
 | some v=>cases v<;>rfl
def OA{xt:TypeId}{x:Operand}{d:TypeDesc}(hd:P.underlying xt=some d)(hi:(match d with | .interface _=>false | _=>true)=true):eg P t h (.makeInterface xt x)=(ev t x).map λv=>[(some (.iface xt v),h)]:=by
 simp only[eg,hd]
 cases d<;>first | (simp at hi;done) | (cases ev t x<;>rfl)
def Qv{g:FuncId}{first cap:Array Operand}:eg P t h (.makeFunc (.func g) first cap)=((xm t first.toList).bind λa=>(xm t cap.toList).map λb=>AV.fn (.func g) a b).map λv=>[(some v,h)]:=rfl
def IU{b:Builtin}{aS:Array Operand}{ats:Array TypeId}:eg P t h (.call { callee:=.builtin b,args:=aS,argTypes:=ats })=((xm t aS.toList).bind λxs=>mD P h b ats.toList xs).map λx=>[(some x.1,x.2)]:=rfl
def l9{tt:TypeId}(hu:P.underlying tt=some .string){s:List Nat}:F3 P h tt (.str s)=some (.int .i64 (s.length:Int)):=by
 simp only[F3,hu,Option.map_some,Int.ofNat_eq_natCast]
end
def NK(t:Tr AV)(x:Operand)(l:List Operand):xm t (x::l)=(ev t x).bind λa=>(xm t l).map λb=>a::b:=by
 simp only[xm,bN]
 cases ev t x with
 | none=>rfl
 | some a=>cases h:mapM (ev t) l<;>simp_all
def Gw(t:Tr AV)(i:Nat)(x:Operand)(l:List (Nat×Operand)):lL t ((i,x)::l)=(ev t x).bind λa=>(lL t l).map λb=>(i,a)::b:=by
 simp only[lL,bN]
 cases ev t x with
 | none=>rfl
 | some a=>cases h:mapM (λp:Nat×Operand=>Option.map (λv=>(p.1,v)) (ev t p.2)) l<;>simp_all
def jm(a b:Nat):decide ((a:Int)<=(b:Int))=ble a b:=by
 by_cases h:a<=b
 ·have:(a:Int)<=b:=by omega
  simp[this,eN h]
 ·have h2:¬(a:Int)<=b:=by omega
  have:ble a b=false:=by
   cases hb:ble a b
   ·rfl
   ·exact t8 (jq hb) h
  simp[h2,this]
def PX(a b:Nat):decide ((a:Int)=(b:Int))=beq a b:=by
 by_cases h:a=b
 ·subst h;simp
 ·have h2:¬(a:Int)=b:=by omega
  have:beq a b=false:=by
   cases hb:beq a b
   ·rfl
   ·exact t8 (cU hb) h
  simp[h2,this]
noncomputable def TB:Option AV->AV
 | some v=>v
 | none=>kn
structure Dq where
 f:Nat->AV
 c:H
 xs:List (Nat×AO)
 al:List (Nat×AO)
 m:Nat
 cs:List (Nat×Nat×H)
 rd:List (Nat×(H->R (Option AV×H))×AV)
noncomputable section
def T1:AO->Option (List AV)
 | .cells cs _=>some cs
 | .ro cs=>some cs
 | _=>none
def rT(o:Tr AO)(id:Nat):Option (List AV):=(o.get id).bind T1
def lG(cs:List AV)(off n:Nat):Option (List AV):=cond (ble (off+n) cs.length) (some ((cs.drop off).take n)) none
section
variable {P:Program} {h:H}
def mr{id off n:Nat}:h.chunk id off n=(rT h.aR id).bind λcs=>lG cs off n:=by
 unfold H.chunk rT
 cases h.aR.get id with
 | none=>rfl
 | some o=>cases o<;>rfl
end
def pq{s:Nat}:∀{rows:List (List AV)},(∀r∈rows,r.length=s)->∀{i:Nat} {r:List AV},rows[i]?=some r->∀{k:Nat},k<s->rows.flatten[i*s+k]?=r[k]?
 | [],_,i,r,hi,k,_=>by simp at hi
 | a::rows,hw,0,r,hi,k,hk=>by
  simp at hi;subst hi;have:=hw a (ay ..);rw[ba,Nat.zero_mul,bt,aj (by omega)]
 | a::rows,hw,i+1,r,hi,k,hk=>by
  rw[ac] at hi;have ha:=hw a (ay ..);have ih:=pq (λr hr=>hw r (a9 _ hr)) hi hk;rw[ba,af (by rw[ha,bs];omega),ha];rw[show(i+1)*s+k-s=i*s+k by rw[bs];omega];exact ih
def jN{s:Nat}:∀{rows:List (List AV)},(∀r∈rows,r.length=s)->rows.flatten.length=rows.length*s
 | [],_=>by simp
 | a::rows,hw=>by
  have ha:=hw a (ay ..);have ih:=jN (λr hr=>hw r (a9 _ hr));rw[ba,List.length_append,ih,ha,List.length_cons,bs];omega
def Iw{α:Type}{l:List α}{i:Nat}{x:α}(h:l[i]?=some x):i<l.length:=(List.getElem?_eq_some_iff.1 h).1
def BR(n:Nat)(s:List Nat):gW (n+1) (.str s) (.str s)=true:=by
 simp only[gW,mG,decide_true]
def LH(n:Nat)(k:IntKind)(i:Int):gW (n+1) (.int k i) (.int k i)=true:=by
 simp only[gW,yB,decide_true,Bool.and_true];cases k<;>rfl
def Io(n:Nat)(b:Bool):gW (n+1) (.bool b) (.bool b)=true:=by
 simp only[gW,beq_self_eq_true]
def LG(n:Nat)(l:List AV)(h:gT (gW n) l l=true):gW (n+1) (.agg l) (.agg l)=true:=h
def ru{a b:Nat}(h:a<=b):gw a b=a:=by unfold gw;rw[eN h,ai]
def dC.SM{P:Program}{g:FuncId}{k:XK}(hx:AX P g k){args:List AV}{h:H}{a:AV}{h':H}(ha:xA k args h=some (a,h')):dC P (.func g) args h (λa' h''=>a'=a/\h''=h'):=
 λσ w args' hv hr=>(hx args h a h' ha σ w args' hv hr).mono λv w' ⟨a',h'',hm,hg⟩=>⟨a',h'',by simpa using hm,hg⟩
def BM(l:List AV):AV.cells (.agg l)=l:=rfl
section
variable {K U:Type} [DecidableEq K]
def oT(k:K):List (K×U)->Nat->Option Nat
 | [],_=>none
 | e::l,j=>if k=e.1 then some j else oT k l (j+1)
def getM(u0:U)(k:K):List (K×U)->U
 | []=>u0
 | e::l=>if k=e.1 then e.2 else getM u0 k l
def dy(k:K)(l:List (K×U)):Bool:=l.any λe=>decide (k=e.1)
def cw(k:K)(v:U):List (K×U)->List (K×U)
 | []=>[(k,v)]
 | e::l=>if k=e.1 then (k,v)::l else e::cw k v l
def fQ(u0:U)(k:K)(l:List (K×U)):List (K×U):=if dy k l then l else l++[(k,u0)]
def iH{k:K}:∀{l:List (K×U)} {j:Nat},oT k l j=none->dy k l=false
 | [],_,_=>rfl
 | e::l,j,h=>by
  unfold oT at h;split at h
  ·cases h
  ·rename_i hne;have:=iH h;simp only[dy,ax,hne,decide_false,Bool.false_or] at this ⊢;exact this
def gC{k:K}:∀{l:List (K×U)} {j i:Nat},oT k l j=some i->j<=i/\∃u,l[i-j]?=some (k,u)/\(∀u0,getM u0 k l=u)/\(∀v,cw k v l=l.set (i-j) (k,v))/\dy k l=true
 | [],_,_,h=>by cases h
 | e::l,j,i,h=>by
  unfold oT at h;split at h
  ·rename_i he;cases h;refine⟨Nat.le_refl _,e.2,?_,λu0=>?_,λv=>?_,?_⟩
   ·rw[Nat.sub_self,List.getElem?_cons_zero];rw[he]
   ·simp only[getM,he,if_true]
   ·rw[Nat.sub_self];simp only[cw,he,if_true,List.set_cons_zero]
   ·simp only[dy,List.any_cons,he,decide_true,Bool.true_or]
  ·rename_i hne;obtain⟨h1,u,h2,h3,h4,h5⟩:=gC h
   have e1:i-j=(i-(j+1))+1:=by omega
   refine⟨by omega,u,?_,λu0=>?_,λv=>?_,?_⟩
   ·rw[e1,List.getElem?_cons_succ];exact h2
   ·simp only[getM,hne,if_false];exact h3 u0
   ·rw[e1];simp only[cw,hne,if_false,List.set_cons_succ];rw[h4]
   ·simp only[dy,List.any_cons] at h5 ⊢;rw[h5,Bool.or_true]
def qu{u0:U}{k:K}:∀{l:List (K×U)},dy k l=false->getM u0 k l=u0
 | [],_=>rfl
 | e::l,h=>by
  simp only[dy,ax,bd,wp] at h;unfold getM;rw[un h.1];exact qu h.2
def mS{k:K}{v:U}:∀{l:List (K×U)},dy k l=false->cw k v l=l++[(k,v)]
 | [],_=>rfl
 | e::l,h=>by
  simp only[dy,ax,bd,wp] at h;unfold cw;rw[un h.1,mS h.2];rfl
def ja(u0:U)(k k':K)(v:U):∀(l:List (K×U)),getM u0 k' (cw k v l)=if k'=k then v else getM u0 k' l
 | []=>by simp only[cw,getM]
 | e::l=>by
  unfold cw;by_cases h:k=e.1
  ·rw[ul h];unfold getM;by_cases h2:k'=k
   ·rw[ul h2,ul h2]
   ·rw[un h2,un h2,un (by rw[<-h];exact h2)]
  ·rw[un h];unfold getM;by_cases h2:k'=e.1
   ·rw[ul h2,ul h2,un (λe2=>h (e2.symm.trans h2))]
   ·rw[un h2,un h2];exact ja u0 k k' v l
def yO(k k':K)(v:U):∀(l:List (K×U)),dy k' (cw k v l)=(decide (k'=k)||dy k' l)
 | []=>by simp[cw,dy]
 | e::l=>by
  have ih:=yO k k' v l;unfold cw;by_cases h:k=e.1
  ·rw[ul h];simp only[dy,ax,h,<-bh,Bool.or_self]
  ·rw[un h];simp only[dy,ax] at ih ⊢;rw[ih,<-bh,<-bh,Bool.or_comm (decide (k'=e.1))]
def tD{k:K}{l:List (K×U)}:dy k l=true↔k∈l.map (·.1):=by
 simp only[dy,List.any_eq_true,wr,mem_map];exact⟨λ⟨x,h1,h2⟩=>⟨x,h1,h2.symm⟩,λ⟨x,h1,h2⟩=>⟨x,h1,h2.symm⟩⟩
structure Keys (P:Program) (kt:TypeId) (kv:K->AV):Prop where
 eq:∀a b,lA P 4 kt (kv a) (kv b)=some (decide (a=b))
 ck:∀a,tG P kt (kv a)=true
 st:∀a,stays (kv a) (kv a)=true
section
variable {P:Program} {t kt et:TypeId} {kv:K->AV} {uv:U->AV} {u0:U} {h:H} {id:Nat} {l:List (K×U)}
def Gy(k:K)(l:List (K×U)):Nat:=match oT k l 0 with
 | some i=>i
 | none=>l.length
def Mt(k:K)(v:U):(fQ u0 k l).set (Gy k l) (k,v)=cw k v l/\Gy k l<(fQ u0 k l).length/\∃u,(fQ u0 k l)[Gy k l]?=some (k,u):=by
 unfold fQ Gy
 cases hp:oT k l 0 with
 | none=>
  have hn:=iH hp;simp only[hn,Bool.false_eq_true,if_false];refine⟨?_,by simp,u0,by simp⟩;rw[mS hn,List.set_append_right _ _ (be _),bc];rfl
 | some i=>
  obtain⟨_,u,h2,h3,h4,h5⟩:=gC hp;rw[bo] at h2;have h4:=h4 v;rw[bo] at h4;simp only[h5,if_true];exact⟨h4.symm,Iw h2,u,h2⟩
end
end
def sC{K U:Type}[DecidableEq K](u0:U)(k k':K)(l:List (K×U)):getM u0 k' (fQ u0 k l)=getM u0 k' l:=by
 unfold fQ;split
 ·rfl
 ·rename_i hn
  have hn:dy k l=false:=by simpa using hn
  have e:l++[(k,u0)]=cw k u0 l:=(mS hn).symm;rw[e,ja];split
  ·rename_i he;rw[he,qu hn]
  ·rfl
theorem iN.n{P:Program}{ro:Option Nat}{all:List Oper}{o:Oper}{l:List Oper}{f:Nat->AV}{n:Nat}{h:H}{ds:List iV}{K:gq->Prop}{d:Nat}{op:Op}{outs:List (Option AV×H)}(hop:o.op=op)(hdst:o.dst=some d)(hw:ke all f n o=some true)(hnd:rz op=true)(hd:blt d n=true)
 (ho:eg P (dj f n) h op=some outs) (hk:∀x∈outs,iN P ro all l ⟨AU f d (TB x.1),n,x.2,ds⟩ K):iN P ro all (o::l) ⟨f,n,h,ds⟩ K:=by
 refine .cons hw (.run (by rw[hop];exact hnd) (by rw[hdst];exact hd) (by rw[hop];exact ho) ?_);intro x hx;have:=hk x hx;rw[hdst];obtain⟨v,h'⟩:=x;cases v<;>exact this
def KN{P:Program}{t:Tr AV}{h:H}{it:Operand}{s:Bool}{a:AV}(ha:ev t it=some a):eg P t h (.next it s)=(zz h a s).map λl=>l.map λx=>(some x.1,x.2):=by
 simp only[eg,ha]
section
variable {K U:Type} [DecidableEq K] {kv:K->AV} {uv:U->AV}
def bq(l:List (K×U))(seen:List Nat):List (K×U):=seen.filterMap λi=>l[i]?
omit [DecidableEq K] in
def mK{l:List (K×U)}{seen:List Nat}(hn:seen.Nodup)(hl:∀i∈seen,i<l.length)(ha:∀i,i<l.length->i∈seen):(bq l seen).Perm l:=by
 have hp:seen.Perm (bx l.length):=by
  refine(List.perm_ext_iff_of_nodup hn List.nodup_range).2 λi=>?_;rw[mem_range];exact⟨hl i,ha i⟩
 have h2:(bx l.length).filterMap (λi=>l[i]?)=l:=by
  apply List.ext_getElem?;intro j
  have:(bx l.length).filterMap (λi=>l[i]?)=(bx l.length).attach.map λx=>l[x.1]'(mem_range.1 x.2):=by
   have:∀(r:List Nat) (hr:∀i∈r,i<l.length),r.filterMap (λi=>l[i]?)=r.attach.map λx=>l[x.1]'(hr x.1 x.2):=by
    intro r hr
    induction r with
    | nil=>rfl
    | cons a r ih=>
     have ha:=hr a (ay ..);rw[List.filterMap_cons,aa ha];simp only[List.attach_cons,List.map_cons,List.map_map];rw[ih λi hi=>hr i (a9 _ hi)];rfl
   exact this _ λi hi=>mem_range.1 hi
  rw[this];by_cases hj:j<l.length
  ·rw[bi,aa (by simpa using hj),aa hj];simp
  ·rw[ad (by simp;omega),ad (by omega)]
 unfold bq;have:=hp.filterMap λi=>l[i]?;rw[h2] at this;exact this
omit [DecidableEq K] in
def lh(l:List (K×U))(seen:List Nat){i:Nat}{e:K×U}(h:l[i]?=some e):bq l (seen++[i])=bq l seen++[e]:=by
 unfold bq;rw[List.filterMap_append];simp[h]
end
def M4(Z:Nat)(h:H)(v:AV)(s:Nat)(rows:List (List AV)):Prop:=
 (∀r∈rows,r.length=s)/\((rows=[]/\v=.slice none 0 0 (some 0))\/∃id cg x y,rows≠[]/\v=.slice (some (id,0)) rows.length s none/\h.aR.get id=some (.cells rows.flatten cg)/\h.dE.get cg=some (x,y)/\(id=x\/id=y)/\
  Z<=id/\Z<=x/\Z<=y/\Z<=cg/\id<h.next/\x<h.next/\y<h.next/\cg<h.next)
structure Over (Z:Nat) (h h':H):Prop where
 next:h.next<=h'.next
 aR:∀j,j<Z->h'.aR.get j=h.aR.get j
 dE:∀f,f<Z->h'.dE.get f=h.dE.get f
 low:h.low<=Z->h'.low=h.low
def Over.refl(Z:Nat)(h:H):Over Z h h:=⟨be _,λ_ _=>rfl,λ_ _=>rfl,λ_=>rfl⟩
def Over.trans{Z:Nat}{h h' h'':H}(a:Over Z h h')(b:Over Z h' h''):Over Z h h'':=
 ⟨b4 a.next b.next,λj hj=>(b.aR j hj).trans (a.aR j hj),λj hj=>(b.dE j hj).trans (a.dE j hj),λhl=>(b.low (by rw[a.low hl];exact hl)).trans (a.low hl)⟩
def sg{Z:Nat}{h:H}{id cg x y:Nat}(hf:h.dE.get cg=some (x,y))(hx:Z<=x)(hy:Z<=y)(hfm:Z<=cg):Over Z h (h.alone id cg)/\(h.alone id cg).next=h.next:=by
 unfold H.alone;rw[hf];simp only;cases hb:(beq x id&&beq y id)
 ·rw[an];refine⟨⟨be _,λj hj=>?_,λf hff=>?_,λhl=>?_⟩,rfl⟩
  ·simp only;cases beq y id
   ·rw[an];cases beq x id
    ·rw[an,bm _ _ (by omega),bm _ _ (by omega)]
    ·rw[ai,bm _ _ (by omega)]
   ·rw[ai,bm _ _ (by omega)]
  ·simp only;rw[bm _ _ (by omega)]
  ·simp only
   have:Z<=gw x y:=by unfold gw;cases ble x y<;>simp<;>assumption
   exact ru (by omega)
 ·rw[ai];exact⟨Over.refl _ _,rfl⟩
def HR.rewrite{σ:Sg}{h:H}{w w1:World}(hr:HR σ h w){id cg:Nat}{cs cs':List AV}{p:sW}(ho:h.aR.get id=some (.cells cs cg))(hp:σ id=some p)(hlen:cs'.length=cs.length)
 {c c':Array Value} {e:TypeId} (hb:w.heap[p.b]?=some (.cells c e (0,0))) (hb':w1.heap[p.b]?=some (.cells c' e (0,0))) (hcz:c'.size=c.size) (hV:∀(i:Nat) (a:AV),cs'[i]?=some a->∃v,c'[p.d+i]?=some v/\V σ a v)
 (hoth:∀b,b≠p.b->w1.heap[b]?=w.heap[b]?) (hs:w1.heap.size=w.heap.size) (e1:w1.os=w.os) (e2:w1.tape=w.tape) (e3:w1.output=w.output):
 HR σ { h.alone id cg with aR:=(h.alone id cg).aR.put id (some (.cells cs' cg)),low:=gw (h.alone id cg).low id } w1/\
 Ext σ σ h { h.alone id cg with aR:=(h.alone id cg).aR.put id (some (.cells cs' cg)),low:=gw (h.alone id cg).low id } w w1:=by
 obtain⟨q,c0,e0,hq,h1,h2,h3,h4⟩:=hr.cells ho;rw[hp] at hq;cases hq;rw[hb] at h1;cases h1;obtain⟨a1,a2,a3,a4,a5,a6,a7,a8⟩:=nu hr ho;refine hr.update (o':=.cells cs' cg) ho hp ?_ a4 ?_ ?_ hoth hs e1 e2 e3 (b4 (dR _ _).1 a7) ?_
 ·intro j x hx;simp only[dH] at hx;split at hx
  ·rename_i e;cases hx;exact .inl ⟨e,rfl⟩
  ·rename_i hne;have hx':=a2 j x hx;refine .inr ⟨hne,hx',?_⟩;intro q hq hbb;obtain⟨cs1,e1⟩:=(hr.sep j id x _ q p hne hx' ho hq hp hbb).left;subst e1;exact hne (a3 j cs1 hx)
 ·intro i cs'' f hi;simp only[dH] at hi;split at hi
  ·rename_i e;cases hi;subst e;exact⟨(hr.cg i _ _ ho).1,a5⟩
  ·rename_i hne;have hi':=a2 _ _ hi;obtain⟨b1,x,y,b2,b3⟩:=hr.cg i _ _ hi';refine⟨b1,x,y,?_,b3⟩;rw[a6 f (λe=>hne (a3 i cs'' (e▸hi)))];exact b2
 ·exact⟨c',e,hb',by rw[hcz];exact h2,by omega,hV⟩
 ·intro j hj hjn;simp only[dH];have hm:=dR (h.alone id cg).low id;rw[un (by simp only at hj;omega)];exact a8 j (by simp only at hj;omega)
def BE{h:H}{id cg x y:Nat}(hf:h.dE.get cg=some (x,y)):(h.alone id cg).dE.get cg=some (id,id):=by
 unfold H.alone;rw[hf];simp only;cases hb:(beq x id&&beq y id)
 ·rw[an];exact cX _ _ _
 ·rw[ai,hf];simp only[bv] at hb;rw[cU hb.1,cU hb.2]
def kO:∀a:List Nat,gJ a a=false
 | []=>rfl
 | x::a=>by
  simp only[gJ,kO a,Bool.and_false,Bool.or_false];cases hb:blt x x
  ·rfl
  ·exact t8 (fW hb) (Nat.lt_irrefl _)
def Kb(a b:Nat):blt a b=decide (a<b):=by
 by_cases h:a<b
 ·have:blt a b=true:=Nat.ble_eq_true_of_le h;simp[h,this]
 ·cases hb:blt a b
  ·simp[h]
  ·exact t8 (fW hb) h
def beq_iff(a b:Nat):beq a b=decide (a=b):=by
 by_cases h:a=b
 ·subst h;simp
 ·cases hb:beq a b
  ·simp[h]
  ·exact t8 (cU hb) h
def ma:∀a b:List Nat,gJ a b=true\/a=b\/gJ b a=true
 | [],[]=>.inr (.inl rfl)
 | [],_::_=>.inl rfl
 | _::_,[]=>.inr (.inr rfl)
 | x::a,y::b=>by
  simp only[gJ,Kb,beq_iff]
  rcases Nat.lt_trichotomy x y with h | h | h
  ·exact .inl (by simp[h])
  ·subst h
   rcases ma a b with h | h | h
   ·exact .inl (by simp[h])
   ·exact .inr (.inl (by rw[h]))
   ·exact .inr (.inr (by simp[h]))
  ·exact .inr (.inr (by simp[h]))
def jx:∀{a b c:List Nat},gJ a b=true->gJ b c=true->gJ a c=true
 | _,[],_,h,_=>by simp[gJ] at h
 | _,_::_,[],_,h=>by simp[gJ] at h
 | [],_::_,_::_,_,_=>rfl
 | x::a,y::b,z::c,h1,h2=>by
  simp only[gJ,Kb,beq_iff,Bool.or_eq_true,bv,wr] at h1 h2 ⊢
  rcases h1 with h1 | ⟨h1,g1⟩
  ·rcases h2 with h2 | ⟨h2,_⟩
   ·exact .inl (by omega)
   ·exact .inl (by omega)
  ·rcases h2 with h2 | ⟨h2,g2⟩
   ·exact .inl (by omega)
   ·exact .inr ⟨by omega,jx g1 g2⟩
def rp{a b:List Nat}(h:gJ a b=true):gJ b a=false:=by
 cases hb:gJ b a
 ·rfl
 ·have:=jx h hb;rw[kO] at this;cases this
def kG{h:H}{id cg x y:Nat}(hf:h.dE.get cg=some (x,y)){i:Nat}(hx:i≠x)(hy:i≠y):(h.alone id cg).aR.get i=h.aR.get i:=by
 unfold H.alone;rw[hf];simp only;cases hb:(beq x id&&beq y id)
 ·rw[an];simp only;cases beq y id
  ·rw[an];cases beq x id
   ·rw[an,bm _ _ hy,bm _ _ hx]
   ·rw[ai,bm _ _ hy]
  ·rw[ai,bm _ _ hx]
 ·rw[ai]
def Gc{k:IntKind}{a b:Int}:sH false (.int k a) (.int k b)=some (.int k (if a<=b then a else b)):=by
 simp only[sH,eU,an];by_cases h:a<=b<;>simp[h]
def Gb{k:IntKind}{a b:Int}:sH true (.int k a) (.int k b)=some (.int k (if b<=a then a else b)):=by
 simp only[sH,eU,ai];by_cases h:b<=a<;>simp[h]
open Go.RowKit Go.ChangeShapes Go.WideShapes Go.Deep
abbrev PA:=List (sW×Option (List AV))
def OM:PA->Nat->Tr AO->Tr AO
 | [],_,t=>t
 | (_,oc)::l,i,t=>OM l (i+1) (match oc with | some cs=>t.put i (some (.ro cs)) | none=>t)
def Uk(l:PA):H:={ aR:=OM l 0 .nil,dE:=.nil,next:=l.length,low:=0 }
def GB:∀(l:PA) (i:Nat) (t:Tr AO) (j:Nat),(OM l i t).get j=if i<=j/\j<i+l.length then (match (l[j-i]?).bind (·.2) with | some cs=>some (.ro cs) | none=>t.get j) else t.get j
 | [],i,t,j=>by rw[un (by simp)];rfl
 | (p,oc)::l,i,t,j=>by
  unfold OM;rw[GB l (i+1)];by_cases hj:j=i
  ·subst hj;rw[un (by omega),ul (by simp),bc]
   cases oc with
   | none=>rfl
   | some cs=>exact cX _ _ _
  ·have ht:(match oc with | some cs=>t.put i (some (.ro cs)) | none=>t).get j=t.get j:=by
    cases oc with
    | none=>rfl
    | some cs=>exact bm _ _ hj
   rw[ht];by_cases h:i+1<=j/\j<i+1+l.length
   ·rw[ul h,ul (by simp;omega)]
    have e:j-i=(j-(i+1))+1:=by omega
    rw[e,ac]
   ·rw[un h,un (by simp;omega)]
def P5(l:PA)(j:Nat):(Uk l).aR.get j=((l[j]?).bind (·.2)).map .ro:=by
 show(OM l 0 .nil).get j=_;rw[GB,bo,bt];by_cases h:j<l.length
 ·rw[ul ⟨Nat.zero_le _,h⟩]
  cases hb:(l[j]?).bind (·.2) with
  | none=>exact get_nil _
  | some cs=>rfl
 ·rw[un (by omega),ad (by omega)];exact get_nil _
def BJ{w:World}{b o:Nat}{v:Value}(h:w.cell? ⟨b,o,none⟩=some v):∃c e f,w.heap[b]?=some (.cells c e f)/\c[o]?=some v:=by
 unfold World.cell? at h;split at h
 ·rename_i c e f hb;split at h
  ·cases h
  ·exact⟨c,e,f,hb,h⟩
 ·cases h
variable {Hh:Type} {enc:TypeId×Value->Hh} {P:Program} {w:World} {held:Bool}
def Nr(s:ByteArray):∀b∈s.data.toList.map (·.toNat),b<256:=by
 intro b hb;obtain⟨u,_,rfl⟩:=mem_map.1 hb;exact u.toNat_lt
open Go.RowKit
mutual
def Wd(w:World):DV->Value->Prop
 | .fl a,v=>mJ a=true/\∀σ:Sg,V σ a v
 | .sl nl n e cs,v=>(nl=true/\n=0/\cs=[]/\v=.slice none 0 0)\/
  (nl=false/\∃a c,v=.slice (some a) n c/\n<=c/\((n=0/\cs=[]/\(a.spot=none\/c=0))\/
   (0<n/\a.spot=none/\∃arr ty f us,w.heap[a.block]?=some (.cells arr ty f)/\a.off+c*e<=arr.size/\us.length=n*e/\(∀(i:Nat) u,us[i]?=some u->arr[a.off+i]?=some u)/\nr w cs us)))
 | .ag cs,v=>∃vs,v=.agg vs/\nr w cs vs.toList
def nr(w:World):List DV->List Value->Prop
 | [],us=>us=[]
 | d::ds,us=>∃u r,us=u::r/\Wd w d u/\nr w ds r
end
mutual
def Dp(s:Bool)(h:H):DV->AV->Prop
 | .fl a0,a=>a=a0/\mJ a0=true
 | .sl nl n e cs,a=>(n=0/\cs=[]/\(∃o e' c,a=.slice o 0 e' c/\(o=none->c=some 0)/\(o≠none->e'=e))/\(s=true->nl=true/\a=.slice none 0 e (some 0)))\/
  ((s=true->nl=false/\0<n)/\∃id off cap row aS,a=.slice (some (id,off)) n e cap/\id<h.next/\rT h.aR id=some row/\off+n*e<=row.length/\aS=(row.drop off).take (n*e)/\ES s h cs aS)
 | .ag cs,a=>∃aS,a=.agg aS/\ES s h cs aS
def ES(s:Bool)(h:H):List DV->List AV->Prop
 | [],aS=>aS=[]
 | d::ds,aS=>∃a r,aS=a::r/\Dp s h d a/\ES s h ds r
end
section
variable {w:World} {s:Bool} {h:H}
def EY{a:AV}{v:Value}:Wd w (.fl a) v↔mJ a=true/\∀σ:Sg,V σ a v:=by rw[Wd]
def EZ{nl:Bool}{n e:Nat}{cs:List DV}{v:Value}:Wd w (.sl nl n e cs) v↔(nl=true/\n=0/\cs=[]/\v=.slice none 0 0)\/
 (nl=false/\∃a c,v=.slice (some a) n c/\n<=c/\((n=0/\cs=[]/\(a.spot=none\/c=0))\/
  (0<n/\a.spot=none/\∃arr ty f us,w.heap[a.block]?=some (.cells arr ty f)/\a.off+c*e<=arr.size/\us.length=n*e/\(∀(i:Nat) u,us[i]?=some u->arr[a.off+i]?=some u)/\nr w cs us))):=by rw[Wd]
def Nb{cs:List DV}{v:Value}:Wd w (.ag cs) v↔∃vs,v=.agg vs/\nr w cs vs.toList:=by rw[Wd]
def jk{us:List Value}:nr w [] us↔us=[]:=by rw[nr]
def eG{d:DV}{ds:List DV}{us:List Value}:nr w (d::ds) us↔∃u r,us=u::r/\Wd w d u/\nr w ds r:=by rw[nr]
def Sq{a0 a:AV}:Dp s h (.fl a0) a↔a=a0/\mJ a0=true:=by rw[Dp]
def J5{nl:Bool}{n e:Nat}{cs:List DV}{a:AV}:Dp s h (.sl nl n e cs) a↔(n=0/\cs=[]/\(∃o e' c,a=.slice o 0 e' c/\(o=none->c=some 0)/\(o≠none->e'=e))/\(s=true->nl=true/\a=.slice none 0 e (some 0)))\/
 ((s=true->nl=false/\0<n)/\∃id off cap row aS,a=.slice (some (id,off)) n e cap/\id<h.next/\rT h.aR id=some row/\off+n*e<=row.length/\aS=(row.drop off).take (n*e)/\ES s h cs aS):=by rw[Dp]
def Sp{cs:List DV}{a:AV}:Dp s h (.ag cs) a↔∃aS,a=.agg aS/\ES s h cs aS:=by rw[Dp]
def PD{aS:List AV}:ES s h [] aS↔aS=[]:=by rw[ES]
def MZ{d:DV}{ds:List DV}{aS:List AV}:ES s h (d::ds) aS↔∃a r,aS=a::r/\Dp s h d a/\ES s h ds r:=by rw[ES]
end
def M8(σ:Sg)(w:World)(p:sW)(row:List AV):Prop:=∃c e f,w.heap[p.b]?=some (.cells c e f)/\p.d+p.r<=c.size/\row.length<=p.r/\∀(i:Nat) (a:AV),row[i]?=some a->∃v,c[p.d+i]?=some v/\V σ a v
def Nj{α:Type}{a b:List α}{i:Nat}{x:α}(h:(a++b)[i]?=some x):(i<a.length/\a[i]?=some x)\/(a.length<=i/\b[i-a.length]?=some x):=by
 rw[List.getElem?_append] at h;split at h
 ·rename_i hi;exact .inl ⟨hi,h⟩
 ·rename_i hi;exact .inr ⟨by omega,h⟩
mutual
def Wd.canon{w:World}:∀{d:DV} {v:Value},Wd w d v->∀k,∃ps:List sW,ps.length=(canon d k).2.length/\∀σ:Sg,(∀(i:Nat) p,ps[i]?=some p->σ (k+i)=some p)->
 V σ (Ev.canon d k).1 v/\∀(i:Nat) p row,ps[i]?=some p->(Ev.canon d k).2[i]?=some (some row)->M8 σ w p row
 | .fl a,v,hd,k=>by
  rw[EY] at hd;simp only[Ev.canon];exact⟨[],rfl,λσ _=>⟨hd.2 σ,λi p row h _=>by simp at h⟩⟩
 | .sl nl n e cs,v,hd,k=>by
  rw[EZ] at hd
  rcases hd with⟨rfl,rfl,rfl,rfl⟩ | ⟨rfl,a,c,rfl,hl,⟨rfl,rfl,hsp⟩ | ⟨hn,hsp,arr,ty,f,us,g1,g2,g3,g4,g5⟩⟩
  ·simp only[Ev.canon];exact⟨[],rfl,λσ _=>⟨.ik rfl,λi p row h _=>by simp at h⟩⟩
  ·simp only[Ev.canon,eR];refine⟨[⟨a.block,a.off,c*e⟩],rfl,λσ hσ=>⟨?_,λi p row h1 h2=>?_⟩⟩
   ·have h0:=hσ 0 _ rfl;rw[bk] at h0;refine .slice h0 hl (by show 0+c*e<=c*e;omega) (by simp) ?_
    rcases hsp with hsp | hsp
    ·left;cases a;simp only at hsp ⊢;subst hsp;rfl
    ·exact .inr hsp
   ·cases i with
    | zero=>simp at h2
    | succ i=>simp at h1
  ·obtain⟨ps,hps,hσs⟩:=nr.canon g5 (k+1);obtain⟨m,rfl⟩:∃m,n=m+1:=⟨n-1,by omega⟩;simp only[Ev.canon];refine⟨⟨a.block,a.off,c*e⟩::ps,by simp[hps],λσ hσ=>?_⟩;have h0:=hσ 0 _ rfl;rw[bk] at h0
   obtain⟨k1,k2⟩:=hσs σ λi p hp=>by
    have:=hσ (i+1) p (by simpa using hp);rw[show k+1+i=k+(i+1) by omega];exact this
   refine⟨.slice h0 hl (by show 0+c*e<=c*e;omega) (by simp) (.inl (by cases a;simp only at hsp ⊢;subst hsp;rfl)),λi p row h1 h2=>?_⟩
   cases i with
   | zero=>
    simp only[bb,Option.some.injEq] at h1 h2;subst h1;subst h2;have hlen:=k1.1;refine⟨arr,ty,f,g1,by simpa using g2,?_,λi x hx=>?_⟩
    ·rw[hlen,g3];exact Nat.mul_le_mul_right e hl
    ·obtain⟨u,hu,hV⟩:=k1.get hx;exact⟨u,g4 i u hu,hV⟩
   | succ i=>
    simp only[ac] at h1 h2;exact k2 i p row h1 h2
 | .ag cs,v,hd,k=>by
  rw[Nb] at hd;obtain⟨vs,rfl,h1⟩:=hd;obtain⟨ps,hps,hσs⟩:=nr.canon h1 k;simp only[Ev.canon];refine⟨ps,hps,λσ hσ=>?_⟩;obtain⟨k1,k2⟩:=hσs σ hσ;exact⟨.agg (by simpa using k1.1) (λi x y hx hy=>k1.2 i x y hx (by simpa using hy)),k2⟩
def nr.canon{w:World}:∀{ds:List DV} {us:List Value},nr w ds us->∀k,∃ps:List sW,ps.length=(eR ds k).2.length/\∀σ:Sg,(∀(i:Nat) p,ps[i]?=some p->σ (k+i)=some p)->
 VL σ (eR ds k).1 us/\∀(i:Nat) p row,ps[i]?=some p->(eR ds k).2[i]?=some (some row)->M8 σ w p row
 | [],us,hd,k=>by
  rw[jk] at hd;subst hd;simp only[eR];exact⟨[],rfl,λσ _=>⟨.nil,λi p row h _=>by simp at h⟩⟩
 | d::ds,us,hd,k=>by
  rw[eG] at hd;obtain⟨u,r,rfl,h1,h2⟩:=hd;obtain⟨ps,hps,hσ1⟩:=Wd.canon h1 k;obtain⟨qs,hqs,hσ2⟩:=nr.canon h2 (k+(Ev.canon d k).2.length);simp only[eR];refine⟨ps++qs,by simp[hps,hqs],λσ hσ=>?_⟩
  obtain⟨a1,a2⟩:=hσ1 σ λi p hp=>hσ i p (by
   have hi:i<ps.length:=(List.getElem?_eq_some_iff.1 hp).1
   rw[aj hi];exact hp)
  obtain⟨b1,b2⟩:=hσ2 σ λi p hp=>by
   have:=hσ (ps.length+i) p (by rw[af (by omega),ap];exact hp);rw[<-hps,b0];exact this
  refine⟨.cons a1 b1,λi p row g1 g2=>?_⟩
  rcases Nj g1 with⟨i1,e1⟩ | ⟨i1,e1⟩<;>rcases Nj g2 with⟨i2,e2⟩ | ⟨i2,e2⟩
  ·exact a2 i p row e1 e2
  ·omega
  ·omega
  ·rw[hps] at e1;exact b2 _ p row e1 e2
end
def Rz(rows:List (Option (List AV))):H:=Uk (rows.map λr=>(⟨0,0,0⟩,r))
def tE(rows:List (Option (List AV)))(j:Nat):(Rz rows).aR.get j=((rows[j]?).bind λr=>r).map .ro:=by
 unfold Rz;rw[P5,bi];cases rows[j]?<;>rfl
def RA{w:World}{rows:List (Option (List AV))}{ps:List sW}(hl:ps.length=rows.length)(hin:∀(i:Nat) p row,ps[i]?=some p->rows[i]?=some (some row)->M8 (λi=>ps[i]?) w p row):HR (λi=>ps[i]?) (Rz rows) w:=by
 refine⟨?_,?_,?_,?_,Nat.zero_le _⟩
 ·intro id o ho;rw[tE] at ho;obtain⟨cs,h1,rfl⟩:=aq ho
  cases hx:rows[id]? with
  | none=>rw[hx] at h1;cases h1
  | some r=>
   rw[hx] at h1;have h1:r=some cs:=h1;subst h1;have hid:id<rows.length:=(List.getElem?_eq_some_iff.1 hx).1;have hp:ps[id]?=some ps[id]:=aa (by omega);exact⟨ps[id],hp,hin id _ cs hp hx⟩
 ·intro id hid;have hid:(rows.map λr=>((⟨0,0,0⟩:sW),r)).length<=id:=hid;rw[bw] at hid;exact ad (by omega)
 ·intro i j o o' p q hij hi hj _ _ _;rw[tE] at hi hj;obtain⟨cs,_,rfl⟩:=aq hi;obtain⟨cs',_,rfl⟩:=aq hj;exact .inr ⟨cs,cs',rfl,rfl⟩
 ·intro i cs f hi;rw[tE] at hi;obtain⟨cs',_,e⟩:=aq hi;cases e
def Ip{rows:List (Option (List AV))}{σ σ':Sg}{h':H}{w w':World}(hE:Ext σ σ' (Rz rows) h' w w'):Below w.heap.size w w':=
 ⟨hE.os,hE.tape,hE.output,hE.size,λk hk=>hE.frame k hk λid o p ho hw=>by
  rw[tE] at ho;obtain⟨cs,_,rfl⟩:=aq ho
  exact t8 rfl (hw cs)⟩
def nr.lay{w:World}{ds:List DV}{us:List Value}(h:nr w ds us):∃σ:Sg,VL σ (eR ds 0).1 us/\HR σ (Rz (eR ds 0).2) w:=by
 obtain⟨ps,hps,hσ⟩:=nr.canon h 0;obtain⟨k1,k2⟩:=hσ (λi=>ps[i]?) (λi p hp=>by rw[bt];exact hp);exact⟨_,k1,RA hps k2⟩
def Sub(rows:List (Option (List AV)))(k:Nat)(l:List (Option (List AV))):Prop:=∀(i:Nat) r,l[i]?=some r->rows[k+i]?=some r
mutual
def Wd.dp{w:World}{rows:List (Option (List AV))}:∀{d:DV} {v:Value},Wd w d v->∀k,Sub rows k (Ev.canon d k).2->Dp false (Rz rows) d (Ev.canon d k).1
 | .fl a,v,hd,k,hs=>by
  rw[EY] at hd;simp only[Ev.canon,Dp];exact⟨trivial,hd.1⟩
 | .sl nl n e cs,v,hd,k,hs=>by
  rw[EZ] at hd
  rcases hd with⟨rfl,rfl,rfl,rfl⟩ | ⟨rfl,a,c,rfl,hl,⟨rfl,rfl,hsp⟩ | ⟨hn,hsp,arr,ty,f,us,g1,g2,g3,g4,g5⟩⟩
  ·simp only[Ev.canon];rw[J5];exact .inl ⟨rfl,rfl,⟨_,_,_,rfl,by simp⟩,λh=>by cases h⟩
  ·simp only[Ev.canon];rw[J5];exact .inl ⟨rfl,rfl,⟨_,_,_,rfl,by simp⟩,λh=>by cases h⟩
  ·obtain⟨m,rfl⟩:∃m,n=m+1:=⟨n-1,by omega⟩;simp only[Ev.canon] at hs ⊢
   have hlen:(eR cs (k+1)).1.length=(m+1)*e:=by
    obtain⟨ps,hps,hσ⟩:=nr.canon g5 (k+1);have:=(hσ (λi=>ps[i-(k+1)]?) (λi p hp=>by rw[ap];exact hp)).1.1;rw[this,g3]
   have h0:=hs 0 _ rfl;rw[bk] at h0;have hk:k<rows.length:=(List.getElem?_eq_some_iff.1 h0).1
   have ih:=nr.dp (rows:=rows) g5 (k+1) (λi r hr=>by
    have:=hs (i+1) r (by simpa using hr)
    rw[show k+1+i=k+(i+1) by omega];exact this)
   rw[J5];refine .inr ⟨λh=>(by cases h),k,0,none,(eR cs (k+1)).1,(eR cs (k+1)).1,rfl,?_,?_,?_,?_,ih⟩
   ·show k<(rows.map _).length;rw[bw];exact hk
   ·unfold rT;rw[tE,h0];rfl
   ·rw[hlen];omega
   ·rw[List.drop_zero,List.take_of_length_le (by omega)]
 | .ag cs,v,hd,k,hs=>by
  rw[Nb] at hd;obtain⟨vs,rfl,h1⟩:=hd;simp only[Ev.canon] at hs ⊢;simp only[Dp];exact⟨_,rfl,nr.dp h1 k hs⟩
def nr.dp{w:World}{rows:List (Option (List AV))}:∀{ds:List DV} {us:List Value},nr w ds us->∀k,Sub rows k (eR ds k).2->ES false (Rz rows) ds (eR ds k).1
 | [],us,hd,k,hs=>by
  simp only[eR,ES]
 | d::ds,us,hd,k,hs=>by
  rw[eG] at hd;obtain⟨u,r,rfl,h1,h2⟩:=hd;simp only[eR] at hs ⊢;simp only[ES];refine⟨_,_,rfl,Wd.dp h1 k (λi x hx=>hs i x ?_),nr.dp h2 _ (λi x hx=>?_)⟩
  ·have hi:i<(Ev.canon d k).2.length:=(List.getElem?_eq_some_iff.1 hx).1;rw[aj hi];exact hx
  ·have:=hs ((Ev.canon d k).2.length+i) x (by rw[af (by omega),ap];exact hx);rw[b0];exact this
end
end
end Go.Ev
