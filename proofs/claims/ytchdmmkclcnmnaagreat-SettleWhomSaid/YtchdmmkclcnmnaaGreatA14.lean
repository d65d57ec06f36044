/- Lemmas of this claim, each with its conditions. -/
import Derived.Test.YtchdmmkclcnmnaaGreatA13
set_option linter.all false
open Option (bind_eq_some_iff)
open Nat (beq)
open Bool renaming and_eq_true -> aa, true_and -> ax, and_true -> a5
open Option renaming bind_some -> ac, map_some -> ay
open List renaming getElem?_eq_getElem -> ad, getElem?_cons_succ -> af, getElem?_cons_zero -> aj, drop_of_length_le -> al, mem_cons_of_mem -> ap, mem_cons_self -> aR, drop_drop -> a0, flatMap_cons -> a6, getElem?_map -> a7, map_cons -> a8, length_cons -> ba, length_drop -> bb, head?_drop -> bc, length_nil -> bd, length_set -> be, take_zero -> bh, take_one -> bi
open Nat renaming le_refl -> a3, sub_zero -> a9, zero_add -> bk
open And renaming intro -> a4
namespace Go.Ev
section
variable {P:Program} {f:Fm} {S:List SO} {o:Nat}
def jo(v:AV):names o (.a v)=false:=by rw[names];all_goals (intros;contradiction)
def zr(n e:Nat)(cs:List SV):names o (.sl n e cs)=false:=by rw[names];all_goals (intros;contradiction)
def zm(ks:List AV)(vs:List SV):names o (.im ks vs)=false:=by rw[names];all_goals (intros;contradiction)
def zn(cs:List SV):names o (.ip cs)=false:=by rw[names];all_goals (intros;contradiction)
def vD:names o .any=false:=by rw[names];all_goals (intros;contradiction)
def Ki(k:IntKind)(n:Int):cR (.a (.int k n))=some [.a (.int k n)]:=rfl
def Kj(s:List Nat):cR (.a (.str s))=some [.a (.str s)]:=rfl
def Kh(b:Bool):cR (.a (.bool b))=some [.a (.bool b)]:=rfl
def BK(o:Option (Nat×Nat))(n e:Nat)(c:Option Nat):cR (.a (.slice o n e c))=some [.a (.slice o n e c)]:=rfl
def Fu(n e:Nat)(cs:List SV):cR (.sl n e cs)=some [.sl n e cs]:=rfl
def Fs(ks:List AV)(vs:List SV):cR (.im ks vs)=some [.im ks vs]:=rfl
def Ft(cs:List SV):cR (.ip cs)=some [.ip cs]:=rfl
def yp(o off:Nat):cR (.ptr o off)=some [.ptr o off]:=rfl
def yo(o:Nat):cR (.map o)=some [.map o]:=rfl
def zk(e:Nat):names o (.e0 e)=false:=by rw[names];all_goals (intros;contradiction)
def BP(o off n e:Nat)(c:Option Nat):cR (.sub o off n e c)=some [.sub o off n e c]:=rfl
def Fp(e:Nat):cR (.e0 e)=some [.e0 e]:=rfl
def BN(o n e:Nat)(c:Option Nat):cR (.buf o n e c)=some [.buf o n e c]:=rfl
def BO(g:FuncId)(a b:List SV):cR (.fn g a b)=some [.fn g a b]:=rfl
def Fq(t:TypeId)(v:SV):cR (.iface t v)=some [.iface t v]:=rfl
def KM(n e:Nat)(cs:List SV):ec (.sl n e cs)=true:=rfl
def KK(ks:List AV)(vs:List SV):ec (.im ks vs)=true:=rfl
def KL(cs:List SV):ec (.ip cs)=true:=rfl
def Gp(o off:Nat):ec (.ptr o off)=true:=rfl
def Gn(o:Nat):ec (.map o)=true:=rfl
def Gq(o off n e:Nat)(c:Option Nat):ec (.sub o off n e c)=true:=rfl
def KH(e:Nat):ec (.e0 e)=true:=rfl
def Gm(o n e:Nat)(c:Option Nat):ec (.buf o n e c)=true:=rfl
def KI(g:FuncId)(a b:List SV):ec (.fn g a b)=true:=rfl
def KJ(t:TypeId)(v:SV):ec (.iface t v)=true:=rfl
def Oq(k:IntKind)(n:Int):jZ (.int k n)=true:=rfl
def Ot(s:List Nat):jZ (.str s)=true:=rfl
def Oo(b:Bool):jZ (.bool b)=true:=rfl
def KG(o:Option (Nat×Nat))(n e:Nat)(c:Option Nat):jZ (.slice o n e c)=true:=rfl
def Rl(k:IntKind)(n:Int):Ap (.int k n)=.a (.int k n):=rfl
def Rm(s:List Nat):Ap (.str s)=.a (.str s):=rfl
def Rk(b:Bool):Ap (.bool b)=.a (.bool b):=rfl
def Pj(o:Option (Nat×Nat))(n e:Nat)(c:Option Nat):Ap (.slice o n e c)=.a (.slice o n e c):=rfl
def Lb(o:Option (Nat×Nat)):Ap (.ptr o)=.a (.ptr o):=rfl
def La(o:Option Nat):Ap (.map o)=.a (.map o):=rfl
def Pg:Ap .fp=.a .fp:=rfl
def aW(v w:SV)(l:List SV):dh (v::w::l)=.bE (v::w::l):=rfl
def O9(x:Operand)(aS:Array Operand)(ats:Array TypeId):dA P f S (.call { callee:=.value x,args:=aS,argTypes:=ats })=none:=rfl
def O8(x:Operand)(m:String)(aS:Array Operand)(ats:Array TypeId):dA P f S (.call { callee:=.invoke x m,args:=aS,argTypes:=ats })=none:=rfl
def jY(k:IntKind)(n:Nat):di (.int k (n:Int))=some n:=rfl
def Ck(k:IntKind)(n:Nat):di (.int k (OfNat.ofNat n))=some n:=rfl
def BL(cs:List AV):(AV.agg cs).cells=cs:=rfl
def Tg:(type_of% (@oW.eq_1))/\(type_of% (@oW.eq_2))/\(type_of% (@dA.eq_1))/\(type_of% (@dA.eq_2))/\(type_of% (@dA.eq_3))/\(type_of% (@dA.eq_4))/\(type_of% (@dA.eq_5))/\(type_of% (@dA.eq_6))/\(type_of% (@dA.eq_7))/\(type_of% (@dA.eq_8))/\(type_of% (@dA.eq_9))/\(type_of% (@dA.eq_10))/\(type_of% (@dA.eq_11))/\(type_of% (@dA.eq_12))/\(type_of% (@dA.eq_13))/\(type_of% (@dA.eq_14))/\(type_of% (@dA.eq_15))/\(type_of% (@dA.eq_16))/\(type_of% (@dA.eq_17))/\(type_of% (@dA.eq_18))/\(type_of% (@dA.eq_19))/\(type_of% (@dA.eq_20))/\(type_of% (@dA.eq_21))/\(type_of% (@dA.eq_22))/\(type_of% (@dA.eq_23))/\(type_of% (@dA.eq_24))/\(type_of% (@dA.eq_25))/\(type_of% (@dA.eq_26))/\(type_of% (@dA.eq_27))/\(type_of% (@tI.eq_1))/\(type_of% (@tI.eq_2))/\(type_of% (@tU.eq_1))/\(type_of% (@aX.eq_1))/\(type_of% (@aX.eq_2))/\(type_of% (@xn.eq_1))/\(type_of% (@xn.eq_2))/\(type_of% (@jS.eq_1))/\(type_of% (@jS.eq_2))/\(type_of% (@db.eq_1))/\(type_of% (@db.eq_2)):=
 ⟨@oW.eq_1,@oW.eq_2,@dA.eq_1,@dA.eq_2,@dA.eq_3,@dA.eq_4,@dA.eq_5,@dA.eq_6,@dA.eq_7,@dA.eq_8,@dA.eq_9,@dA.eq_10,@dA.eq_11,@dA.eq_12,@dA.eq_13,@dA.eq_14,@dA.eq_15,@dA.eq_16,@dA.eq_17,@dA.eq_18,@dA.eq_19,@dA.eq_20,@dA.eq_21,@dA.eq_22,@dA.eq_23,@dA.eq_24,@dA.eq_25,@dA.eq_26,@dA.eq_27,@tI.eq_1,@tI.eq_2,@tU.eq_1,@aX.eq_1,@aX.eq_2,@xn.eq_1,@xn.eq_2,@jS.eq_1,@jS.eq_2,@db.eq_1,@db.eq_2⟩
def Th:(type_of% (@CZ.eq_1))/\(type_of% (@CZ.eq_2))/\(type_of% (@eF.eq_1))/\(type_of% (@eF.eq_2))/\(type_of% (@eF.eq_3))/\(type_of% (@eF.eq_4))/\(type_of% (@mY.eq_1))/\(type_of% (@mY.eq_2))/\(type_of% (@j9.eq_1))/\(type_of% (@j9.eq_2))/\(type_of% (@uk.eq_1))/\(type_of% (@uk.eq_2))/\(type_of% (@ql.eq_1))/\(type_of% (@ql.eq_2))/\(type_of% (@yk.eq_1))/\(type_of% (@ld.eq_1))/\(type_of% (@cG.eq_1))/\(type_of% (@cG.eq_2))/\(type_of% (@cG.eq_3))/\(type_of% (@gY.eq_1))/\(type_of% (@gY.eq_2))/\(type_of% (@IM.eq_1))/\(type_of% (@sy.eq_1))/\(type_of% (@sy.eq_2))/\(type_of% (@sy.eq_3))/\(type_of% (@pX.eq_1))/\(type_of% (@pX.eq_2))/\(type_of% (@pX.eq_3))/\(type_of% (@pX.eq_4))/\(type_of% (@pX.eq_5))/\(type_of% (@nM.eq_1))/\(type_of% (@nM.eq_2))/\(type_of% (@nM.eq_3))/\(type_of% (@dB.eq_1))/\(type_of% (@gO.eq_1))/\(type_of% (@xu.eq_1))/\(type_of% (@xu.eq_2))/\(type_of% (@dK.eq_1)):=
 ⟨@CZ.eq_1,@CZ.eq_2,@eF.eq_1,@eF.eq_2,@eF.eq_3,@eF.eq_4,@mY.eq_1,@mY.eq_2,@j9.eq_1,@j9.eq_2,@uk.eq_1,@uk.eq_2,@ql.eq_1,@ql.eq_2,@yk.eq_1,@ld.eq_1,@cG.eq_1,@cG.eq_2,@cG.eq_3,@gY.eq_1,@gY.eq_2,@IM.eq_1,@sy.eq_1,@sy.eq_2,@sy.eq_3,@pX.eq_1,@pX.eq_2,@pX.eq_3,@pX.eq_4,@pX.eq_5,@nM.eq_1,@nM.eq_2,@nM.eq_3,@dB.eq_1,@gO.eq_1,@xu.eq_1,@xu.eq_2,@dK.eq_1⟩
def Ti:(type_of% (@dK.eq_2))/\(type_of% (@dK.eq_3))/\(type_of% (@dK.eq_4))/\(type_of% (@dK.eq_5))/\(type_of% (@Gx.eq_1))/\(type_of% (@Am.eq_1))/\(type_of% (@cN.eq_1))/\(type_of% (@cN.eq_2))/\(type_of% (@cN.eq_3))/\(type_of% (@cN.eq_4))/\(type_of% (@cN.eq_5))/\(type_of% (@mH.eq_1))/\(type_of% (@vk.eq_1))/\(type_of% (@mL.eq_1))/\(type_of% (@yQ.eq_1))/\(type_of% (@gl.eq_1))/\(type_of% (@gl.eq_2))/\(type_of% (@gl.eq_3))/\(type_of% (@gl.eq_4))/\(type_of% (@bQ.eq_1))/\(type_of% (@bQ.eq_2))/\(type_of% (@bQ.eq_3))/\(type_of% (@bQ.eq_4))/\(type_of% (@bQ.eq_5))/\(type_of% (@bQ.eq_6))/\(type_of% (@bQ.eq_7))/\(type_of% (@dJ.eq_1))/\(type_of% (@mT.eq_1))/\(type_of% (@mT.eq_2))/\(type_of% (@mT.eq_3))/\(type_of% (@dh.eq_1))/\(type_of% (@gV.eq_1))/\(type_of% (@Ap.eq_1))/\(type_of% (@cR.eq_1))/\(type_of% (@cR.eq_2))/\(type_of% (@cR.eq_3))/\(type_of% (@ec.eq_1))/\(type_of% (@ec.eq_2))/\(type_of% (@ec.eq_3))/\(type_of% (@ec.eq_4))/\(type_of% (@names.eq_1))/\(type_of% (@names.eq_2))/\(type_of% (@names.eq_3))/\(type_of% (@names.eq_4)):=
 ⟨@dK.eq_2,@dK.eq_3,@dK.eq_4,@dK.eq_5,@Gx.eq_1,@Am.eq_1,@cN.eq_1,@cN.eq_2,@cN.eq_3,@cN.eq_4,@cN.eq_5,@mH.eq_1,@vk.eq_1,@mL.eq_1,@yQ.eq_1,@gl.eq_1,@gl.eq_2,@gl.eq_3,@gl.eq_4,@bQ.eq_1,@bQ.eq_2,@bQ.eq_3,@bQ.eq_4,@bQ.eq_5,@bQ.eq_6,@bQ.eq_7,@dJ.eq_1,@mT.eq_1,@mT.eq_2,@mT.eq_3,@dh.eq_1,@gV.eq_1,@Ap.eq_1,@cR.eq_1,@cR.eq_2,@cR.eq_3,@ec.eq_1,@ec.eq_2,@ec.eq_3,@ec.eq_4,@names.eq_1,@names.eq_2,@names.eq_3,@names.eq_4⟩
def Tj:(type_of% (@names.eq_5))/\(type_of% (@names.eq_6))/\(type_of% (@names.eq_7))/\(type_of% (@gh.eq_1))/\(type_of% (@gh.eq_2))/\(type_of% (@bf.eq_1))/\(type_of% (@rL.eq_1))/\(type_of% (@rL.eq_2))/\(type_of% (@yb.eq_1))/\(type_of% (@yb.eq_2))/\(type_of% (@kj.eq_1))/\(type_of% (@kj.eq_2))/\(type_of% (@jo))/\(type_of% (@zr))/\(type_of% (@zm))/\(type_of% (@zn))/\(type_of% (@vD))/\(type_of% (@BK))/\(type_of% (@Ki))/\(type_of% (@Kj))/\(type_of% (@Kh))/\(type_of% (@Fu))/\(type_of% (@Fs))/\(type_of% (@Ft))/\(type_of% (@BN))/\(type_of% (@Fq))/\(type_of% (@KM))/\(type_of% (@KK))/\(type_of% (@KL))/\(type_of% (@Gp))/\(type_of% (@Gn))/\(type_of% (@Gm))/\(type_of% (@KI))/\(type_of% (@KJ))/\(type_of% (@Oq))/\(type_of% (@Ot))/\(type_of% (@Oo))/\(type_of% (@KG))/\(type_of% (@Rl))/\(type_of% (@Rm)):=
 ⟨@names.eq_5,@names.eq_6,@names.eq_7,@gh.eq_1,@gh.eq_2,@bf.eq_1,@rL.eq_1,@rL.eq_2,@yb.eq_1,@yb.eq_2,@kj.eq_1,@kj.eq_2,@jo,@zr,@zm,@zn,@vD,@BK,@Ki,@Kj,@Kh,@Fu,@Fs,@Ft,@BN,@Fq,@KM,@KK,@KL,@Gp,@Gn,@Gm,@KI,@KJ,@Oq,@Ot,@Oo,@KG,@Rl,@Rm⟩
def Tk:(type_of% (@Rk))/\(type_of% (@Pj))/\(type_of% (@Lb))/\(type_of% (@La))/\(type_of% (@Pg))/\(type_of% (@aW))/\(type_of% (@O9))/\(type_of% (@O8))/\(type_of% (@jY))/\(type_of% (@yp))/\(type_of% (@yo))/\(type_of% (@BO))/\(type_of% (@Ck))/\(type_of% (@BL))/\(type_of% (@BM))/\(type_of% (@Pq))/\(type_of% (@Fa))/\(type_of% (@Ff))/\(type_of% (@Fe))/\(type_of% (@Fb))/\(type_of% (@td))/\(type_of% (@Fc))/\(type_of% ((λ{P:Program} {t:TypeId} {a b:Int}=>@xN P t a b _ pT)))/\(type_of% ((λ{P:Program} {t:TypeId} {a b:Int}=>@tc P t a b _ pT)))/\(type_of% ((λ{P:Program} {t:TypeId} {a b:Int}=>@xM P t a b _ pT)))/\(type_of% ((λ{P:Program} {t:TypeId} {a b:Int}=>@xL P t a b _ pT)))/\(type_of% ((λ{P:Program} {t:TypeId} {a b:Int}=>@tb P t a b _ pT)))/\(type_of% ((λ{P:Program} {t:TypeId} {a b:Int}=>@pa P t a b _ pT)))/\(type_of% ((λ{P:Program} {t:TypeId} {a b:Int}=>@xN P t a b _ xq)))/\(type_of% ((λ{P:Program} {t:TypeId} {a b:Int}=>@tc P t a b _ xq)))/\(type_of% ((λ{P:Program} {t:TypeId} {a b:Int}=>@xM P t a b _ xq)))/\(type_of% ((λ{P:Program} {t:TypeId} {a b:Int}=>@xL P t a b _ xq)))/\(type_of% ((λ{P:Program} {t:TypeId} {a b:Int}=>@tb P t a b _ xq)))/\(type_of% ((λ{P:Program} {t:TypeId} {a b:Int}=>@pa P t a b _ xq)))/\(type_of% (@names.eq_8))/\(type_of% (@pX.eq_6))/\(type_of% (@pX.eq_7))/\(type_of% (@nM.eq_4))/\(type_of% (@nM.eq_5))/\(type_of% (@cN.eq_6))/\(type_of% (@cN.eq_7))/\(type_of% (@gl.eq_6))/\(type_of% (@gl.eq_8))/\(type_of% (@gl.eq_9))/\(type_of% (@gl.eq_10))/\(type_of% (@dK.eq_6))/\(type_of% (@dK.eq_7))/\(type_of% (@dK.eq_8))/\(type_of% (@E1.eq_1))/\(type_of% (@E1.eq_2))/\(type_of% (@E1.eq_3))/\(type_of% (@AY.eq_1))/\(type_of% (@AY.eq_2))/\(type_of% (@AY.eq_3))/\(type_of% (@AY.eq_4))/\(type_of% (@Fx.eq_1))/\(type_of% (@Kl.eq_1))/\(type_of% (@yr.eq_1))/\(type_of% (@Q2.eq_1))/\(type_of% (@Q2.eq_2))/\(type_of% (@yn.eq_1))/\(type_of% (@yn.eq_2))/\(type_of% (@yn.eq_3))/\(type_of% (@yn.eq_4))/\(type_of% (@zk))/\(type_of% (@BP))/\(type_of% (@Fp))/\(type_of% (@Gq))/\(type_of% (@KH))/\(type_of% (@s7.eq_1))/\(type_of% (@tN.eq_1)):=
 ⟨@Rk,@Pj,@Lb,@La,@Pg,@aW,@O9,@O8,@jY,@yp,@yo,@BO,@Ck,@BL,@BM,@Pq,@Fa,@Ff,@Fe,@Fb,@td,@Fc,(λ{P:Program} {t:TypeId} {a b:Int}=>@xN P t a b _ pT),(λ{P:Program} {t:TypeId} {a b:Int}=>@tc P t a b _ pT),(λ{P:Program} {t:TypeId} {a b:Int}=>@xM P t a b _ pT),(λ{P:Program} {t:TypeId} {a b:Int}=>@xL P t a b _ pT),(λ{P:Program} {t:TypeId} {a b:Int}=>@tb P t a b _ pT),(λ{P:Program} {t:TypeId} {a b:Int}=>@pa P t a b _ pT),(λ{P:Program} {t:TypeId} {a b:Int}=>@xN P t a b _ xq),(λ{P:Program} {t:TypeId} {a b:Int}=>@tc P t a b _ xq),(λ{P:Program} {t:TypeId} {a b:Int}=>@xM P t a b _ xq),(λ{P:Program} {t:TypeId} {a b:Int}=>@xL P t a b _ xq),(λ{P:Program} {t:TypeId} {a b:Int}=>@tb P t a b _ xq),(λ{P:Program} {t:TypeId} {a b:Int}=>@pa P t a b _ xq),@names.eq_8,@pX.eq_6,@pX.eq_7,@nM.eq_4,@nM.eq_5,@cN.eq_6,@cN.eq_7,@gl.eq_6,@gl.eq_8,@gl.eq_9,@gl.eq_10,@dK.eq_6,@dK.eq_7,@dK.eq_8,@E1.eq_1,@E1.eq_2,@E1.eq_3,@AY.eq_1,@AY.eq_2,@AY.eq_3,@AY.eq_4,@Fx.eq_1,@Kl.eq_1,@yr.eq_1,@Q2.eq_1,@Q2.eq_2,@yn.eq_1,@yn.eq_2,@yn.eq_3,@yn.eq_4,@zk,@BP,@Fp,@Gq,@KH,@s7.eq_1,@tN.eq_1⟩
def bP:type_of% Tg/\type_of% Th/\type_of% Ti/\type_of% Tj/\type_of% Tk:=⟨Tg,Th,Ti,Tj,Tk⟩
end
noncomputable section
def pW:Op->Bool
 | .move _ | .assign _ | .pick _ _ _ | .build _ _ | .nilCheck _ | .binOp _ _ _ _ _ | .unOp _ _ _ | .convert _ _ _ | .fieldAddr _ _ _ | .field _ _ _ | .indexAddr _ _ _ | .index _ _ _ | .extract _ _ | .load _ _ | .lookup _ _ _ _ | .slice _ _ _ _ _=>true
 | .makeFunc (.func _) _ _=>true
 | .makeFunc (.method _) _ _=>true
 | .call { callee:=.builtin .len,.. }=>true
 | _=>false
def NY:Op->Bool
 | .load _ _ | .lookup _ _ _ _ | .call _ | .slice _ _ _ _ _=>true
 | _=>false
def Pa{P:Program}{f:Fm}{S S':List SO}{op:Op}(hr:pW op=true){v:SV}{kill:Option Nat}(h:dA P f S op=some (v,S',kill)):S'=S/\kill=none:=by
 cases op with
 | move x=>obtain⟨_,_,e⟩:=aq h;cases e;exact⟨rfl,rfl⟩
 | assign x=>obtain⟨_,_,e⟩:=aq h;cases e;exact⟨rfl,rfl⟩
 | pick c a b=>obtain⟨_,_,e⟩:=aq h;cases e;exact⟨rfl,rfl⟩
 | build tt ps=>obtain⟨_,_,h⟩:=bind_eq_some_iff.1 h;obtain⟨_,_,e⟩:=aq h;cases e;exact⟨rfl,rfl⟩
 | nilCheck x=>obtain⟨_,_,h⟩:=bind_eq_some_iff.1 h;obtain⟨_,_,e⟩:=aq h;cases e;exact⟨rfl,rfl⟩
 | binOp op xt x y yt=>
  obtain⟨_,_,h⟩:=bind_eq_some_iff.1 h;obtain⟨_,_,h⟩:=bind_eq_some_iff.1 h;obtain⟨_,_,h⟩:=bind_eq_some_iff.1 h;obtain⟨_,_,h⟩:=bind_eq_some_iff.1 h;obtain⟨_,_,e⟩:=aq h;cases e;exact⟨rfl,rfl⟩
 | unOp op xt x=>
  obtain⟨_,_,h⟩:=bind_eq_some_iff.1 h;obtain⟨_,_,h⟩:=bind_eq_some_iff.1 h;obtain⟨_,_,e⟩:=aq h;cases e;exact⟨rfl,rfl⟩
 | convert s d x=>
  obtain⟨_,_,h⟩:=bind_eq_some_iff.1 h;obtain⟨_,_,h⟩:=bind_eq_some_iff.1 h;obtain⟨_,_,e⟩:=aq h;cases e;exact⟨rfl,rfl⟩
 | fieldAddr s x fl=>obtain⟨_,_,h⟩:=bind_eq_some_iff.1 h;obtain⟨_,_,e⟩:=aq h;cases e;exact⟨rfl,rfl⟩
 | field s x fl=>obtain⟨_,_,h⟩:=bind_eq_some_iff.1 h;obtain⟨_,_,e⟩:=aq h;cases e;exact⟨rfl,rfl⟩
 | indexAddr s x i=>
  obtain⟨_,_,h⟩:=bind_eq_some_iff.1 h;obtain⟨_,_,h⟩:=bind_eq_some_iff.1 h;obtain⟨_,_,e⟩:=aq h;cases e;exact⟨rfl,rfl⟩
 | index s x i=>
  obtain⟨_,_,h⟩:=bind_eq_some_iff.1 h;obtain⟨_,_,h⟩:=bind_eq_some_iff.1 h;obtain⟨_,_,e⟩:=aq h;cases e;exact⟨rfl,rfl⟩
 | extract x i=>
  simp only[dA] at h;split at h
  ·obtain⟨_,_,e⟩:=aq h;cases e;exact⟨rfl,rfl⟩
  ·cases h
 | makeFunc g first cap=>
  cases g with
  | func g=>obtain⟨_,_,h⟩:=bind_eq_some_iff.1 h;obtain⟨_,_,e⟩:=aq h;cases e;exact⟨rfl,rfl⟩
  | method nm=>
   obtain⟨_,_,h⟩:=bind_eq_some_iff.1 h;obtain⟨_,_,h⟩:=bind_eq_some_iff.1 h;obtain⟨_,_,h⟩:=bind_eq_some_iff.1 h;obtain⟨_,_,e⟩:=aq h;cases e;exact⟨rfl,rfl⟩
  | _=>simp[pW] at hr
 | load tt a=>obtain⟨_,_,h⟩:=bind_eq_some_iff.1 h;obtain⟨_,_,e⟩:=aq h;cases e;exact⟨rfl,rfl⟩
 | lookup tt x k ok=>
  obtain⟨_,_,h⟩:=bind_eq_some_iff.1 h;obtain⟨_,_,h⟩:=bind_eq_some_iff.1 h;obtain⟨_,_,e⟩:=aq h;cases e;exact⟨rfl,rfl⟩
 | slice tt x lo hi mx=>
  obtain⟨_,_,h⟩:=bind_eq_some_iff.1 h;obtain⟨_,_,h⟩:=bind_eq_some_iff.1 h;obtain⟨_,_,h⟩:=bind_eq_some_iff.1 h;obtain⟨_,_,h⟩:=bind_eq_some_iff.1 h;obtain⟨_,_,e⟩:=aq h;cases e;exact⟨rfl,rfl⟩
 | call c=>
  obtain⟨callee,aS,ats⟩:=c
  cases callee with
  | builtin b=>
   cases b with
   | len=>
    obtain⟨_,_,h⟩:=bind_eq_some_iff.1 h;rename_i vs _
    cases hats:ats.toList with
    | nil=>rw[hats] at h;cases h
    | cons tt l=>
     rw[hats] at h
     cases vs with
     | nil=>cases h
     | cons x l'=>
      have h:(pX P S tt x).map (λ(n:Nat)=>((SV.a (.int .i64 (n:Int)),S,none):SV×List SO×Option Nat))=some (v,S',kill):=h;obtain⟨_,_,e⟩:=aq h;cases e;exact⟨rfl,rfl⟩
   | _=>simp[pW] at hr
  | _=>simp[pW] at hr
 | _=>simp[pW] at hr
section
variable {θ:Nat->Loc} {ρ ρ0:kg} {P:Program}
mutual
def FI:∀{r:SV} {v:AV},cG r=some v->VS θ ρ r v
 | .a w,v,h=>by rw[cG] at h;cases h;rw[VS]
 | .ag cs,v,h=>by rw[cG] at h;obtain⟨aS,h1,rfl⟩:=aq h;rw[VS];exact⟨aS,rfl,tx h1⟩
 | .any,_,h=>by simp[cG] at h
 | .sl _ _ _,_,h=>by simp[cG] at h
 | .im _ _,_,h=>by simp[cG] at h
 | .ip _,_,h=>by simp[cG] at h
 | .ptr _ _,_,h=>by simp[cG] at h
 | .map _,_,h=>by simp[cG] at h
 | .buf _ _ _ _,_,h=>by simp[cG] at h
 | .sub _ _ _ _ _,_,h=>by simp[cG] at h
 | .e0 _,_,h=>by simp[cG] at h
 | .bE _,_,h=>by simp[cG] at h
 | .fn _ _ _,_,h=>by simp[cG] at h
 | .iface t w,v,h=>by rw[cG] at h;obtain⟨a,h1,rfl⟩:=aq h;rw[VS];exact⟨a,rfl,FI h1⟩
def tx:∀{rs:List SV} {vs:List AV},gY rs=some vs->c7 θ ρ rs vs
 | [],vs,h=>by rw[gY] at h;cases h;rw[aQ]
 | d::ds,vs,h=>by
  rw[gY] at h;obtain⟨a,ha,h⟩:=bind_eq_some_iff.1 h;obtain⟨b,hb,rfl⟩:=aq h;rw[aK];exact⟨a,b,rfl,FI ha,tx hb⟩
end
end
section
variable {P:Program} {ro:Option Nat} {Q:Ex->eB->Prop} {f f':Fm} {n:Nat} {S S':List SO} {ds:List iV}
def ar.Pz{id:Nat}{ops:Array Oper}{l':List Oper}(hs:eP ops.toList n ops.toList=true)(h:oW P ops.toList ops.toList f S=(l',f',S'))(hk:aI P ro ops.toList l' ⟨f',n,S',ds⟩ (Q .normal)):ar P ro (.region id ops false) ⟨f,n,S,ds⟩ Q:=.region (.run hs h hk)
def ar.r0{id:Nat}{ops:Array Oper}(hs:eP ops.toList n ops.toList=true)(h:oW P ops.toList ops.toList f S=([],f',S'))(hk:Q .normal ⟨f',n,S',ds⟩):ar P ro (.region id ops false) ⟨f,n,S,ds⟩ Q:=.Pz hs h (.nil hk)
def aI.r0{all l:List Oper}{K:eB->Prop}(hs:eP all n l=true)(h:oW P all l f S=([],f',S'))(hk:K ⟨f',n,S',ds⟩):aI P ro all l ⟨f,n,S,ds⟩ K:=.run hs h (.nil hk)
theorem aI.k{all:List Oper}{o:Oper}{l:List Oper}{K:eB->Prop}{d:Nat}{c:Call}{g:FuncId}{vs ws:List SV}{r:SV}(hst:eP all n [o]=true)(hop:o.op=.call c)(hdst:o.dst=some d)(hw:db all f o.guard=some true)(hdy:lj (.call c)=true)
 (hc:gV P f c=some (g,vs)) (hq:PC P g ws (·=r)) (hwk:bp S vs ws) (hfl:BU r=true\/bp [] vs ws) (hk:aI P ro all l ⟨(d,r)::f,n,S,ds⟩ K):aI P ro all (o::l) ⟨f,n,S,ds⟩ K:=by
 have hd:=(ez hst).1;rw[hdst] at hd;exact .call hop hdst (dN hst hw) hdy hd hc hq hwk (hfl.imp (λh r hr=>by rw[hr];exact h) id) (λr hr=>by rw[hr];exact hk)
end
def S7:(∀(a:SV) (l:List SV) (i:Nat),(a::l)[i+1]?=l[i]?)/\(∀(a:SV) (l:List SV),(a::l)[0]?=some a)/\(∀(a:AV) (l:List AV) (i:Nat),(a::l)[i+1]?=l[i]?)/\(∀(a:AV) (l:List AV),(a::l)[0]?=some a)/\(∀(a:SO) (l:List SO) (i:Nat),(a::l)[i+1]?=l[i]?)/\(∀(a:SO) (l:List SO),(a::l)[0]?=some a)/\(∀(a:Oper) (l:List Oper) (i:Nat),(a::l)[i+1]?=l[i]?)/\(∀(a:Oper) (l:List Oper),(a::l)[0]?=some a)/\(∀(a:SV) (l:List SV) (i:Nat),(a::l).drop (i+1)=l.drop i)/\(∀l:List SV,l.drop 0=l)/\(∀i:Nat,([]:List SV).drop i=[])/\(∀(i:Nat) (a:SV) (l:List SV),(a::l).take (i+1)=a::l.take i)/\(∀l:List SV,l.take 0=[])/\(∀i:Nat,([]:List SV).take i=[])/\(∀(p:SV->Bool) (a:SV) (l:List SV),(a::l).all p=(p a&&l.all p))/\(∀p:SV->Bool,([]:List SV).all p=true)/\(∀l:List SV,[]++l=l)/\(∀(a:SV) (l m:List SV),(a::l)++m=a::(l++m))/\(∀(a b:SV) (l:List SV),(a::l).set 0 b=b::l)/\(∀(a b:SV) (l:List SV) (i:Nat),(a::l).set (i+1) b=a::l.set i b)/\(∀l:List SO,[]++l=l)/\(∀(a:SO) (l m:List SO),(a::l)++m=a::(l++m))/\(∀(a b:SO) (l:List SO),(a::l).set 0 b=b::l)/\(∀(a b:SO) (l:List SO) (i:Nat),(a::l).set (i+1) b=a::l.set i b)/\(∀(a:SV) (l:List SV),(a::l).length=l.length+1)/\(([]:List SV).length=0)/\(∀(a:SO) (l:List SO),(a::l).length=l.length+1)/\(([]:List SO).length=0)/\(∀(a:AV) (l:List AV),(a::l).length=l.length+1)/\(([]:List AV).length=0):=by
 (repeat' apply a4)<;>intros<;>first | rfl | (simp;done) | (unfold qh;rfl)
def S8:(∀(f:AV->SV) (a:AV) (l:List AV),(a::l).map f=f a::l.map f)/\(∀f:AV->SV,([]:List AV).map f=[])/\(∀(f:SV->SV) (a:SV) (l:List SV),(a::l).map f=f a::l.map f)/\(∀f:SV->SV,([]:List SV).map f=[])/\(∀(f:SO->SO) (a:SO) (l:List SO),(a::l).map f=f a::l.map f)/\(∀f:SO->SO,([]:List SO).map f=[])/\(∀(f:(Nat×SV)->(Nat×SV)) (a:(Nat×SV)) (l:List (Nat×SV)),(a::l).map f=f a::l.map f)/\(∀f:(Nat×SV)->(Nat×SV),([]:List (Nat×SV)).map f=[])/\(∀l:List Oper,l.toArray.toList=l)/\(∀l:List Operand,l.toArray.toList=l)/\(∀l:List TypeId,l.toArray.toList=l)/\(∀l:List (Nat×Operand),l.toArray.toList=l)/\(∀l:List ResultVar,l.toArray.toList=l)/\(∀x y:SV,cond true x y=x)/\(∀x y:SV,cond false x y=y)/\(∀x y:Bool,cond true x y=x)/\(∀x y:Bool,cond false x y=y)/\(∀x y:Option (SV×List SO×Option Nat),cond true x y=x)/\(∀x y:Option (SV×List SO×Option Nat),cond false x y=y)/\(∀x y:Option SV,cond true x y=x)/\(∀x y:Option SV,cond false x y=y)/\(∀x y:Option (List SO),cond true x y=x)/\(∀x y:Option (List SO),cond false x y=y)/\(∀n:Nat,0+n=n)/\(∀n:Nat,n+0=n)/\(∀n:Nat,0*n=0)/\(∀b,(b||false)=b)/\(∀b,(false||b)=b)/\(∀b,(b||true)=true)/\(∀b,(true||b)=true):=by
 (repeat' apply a4)<;>intros<;>first | rfl | (simp;done) | (unfold qh;rfl)
def S9:(∀b,(b&&true)=b)/\(∀b,(true&&b)=b)/\(∀b,(b&&false)=false)/\(∀b,(false&&b)=false)/\((!true)=false)/\((!false)=true)/\(∀p:Prop,(p/\True)=p)/\(∀p:Prop,(True/\p)=p)/\((¬False)=True)/\((¬True)=False)/\(∀a b:Nat,(a≠b)=¬(a=b))/\(∀b:Bool,(b=b)=True)/\(∀n:Nat,(n=n)=True)/\((false=true)=False)/\((true=false)=False)/\(∀{α:Type} (p:Prop) [Decidable p] (x:Option α),qh p x=if p then x else none):=by
 (repeat' apply a4)<;>intros<;>first | rfl | (simp;done) | (unfold qh;rfl)
def Ta:(∀(k:IntKind) (n:Int),lE lH (.int k n)=some (.int k n))/\(∀b,lE lH (.bool b)=some (.bool b))/\(lE lH (.pointer none)=some (.ptr none))/\(lE lH (.slice none 0 0)=some (.slice none 0 0 (some 0)))/\(lE lH (.map none)=some (.map none))/\(lE lH .nilFunc=some .fp)/\(∀s,lE lH (.string s)=some (.str (s.data.toList.map (·.toNat))))/\(∀l:List UInt8,l.toArray.toList=l)/\(∀(f:UInt8->Nat) (a:UInt8) (l:List UInt8),(a::l).map f=f a::l.map f)/\(∀f:UInt8->Nat,([]:List UInt8).map f=[])/\(∀h:Decidable False,@decide False h=false)/\(∀h:Decidable True,@decide True h=true):=by
 (repeat' apply a4)<;>intros<;>first | rfl | (simp;done)
def Tb:(∀l:List (Nat×SV),[]++l=l)/\(∀(a:Nat×SV) (l m:List (Nat×SV)),(a::l)++m=a::(l++m))/\(∀z:List AV,rep z 0=[])/\(∀(z:List AV) (n:Nat),rep z (n+1)=z++rep z n)/\(∀l:List AV,[]++l=l)/\(∀(a:AV) (l m:List AV),(a::l)++m=a::(l++m))/\(∀s,(AV.str s).cells=[.str s])/\(∀k n,(AV.int k n).cells=[.int k n])/\(∀b,(AV.bool b).cells=[.bool b])/\(∀o n e c,(AV.slice o n e c).cells=[.slice o n e c])/\(∀o,(AV.ptr o).cells=[.ptr o])/\(∀o,(AV.map o).cells=[.map o])/\(AV.fp.cells=[.fp])/\(AV.xv.cells=[.xv]):=by
 (repeat' apply a4)<;>intros<;>first | rfl | (simp;done)
def bg:type_of% S7/\type_of% S8/\type_of% S9/\type_of% Ta/\type_of% Tb:=⟨S7,S8,S9,Ta,Tb⟩
def dr(k:Nat):((k+1:Nat):Int)=(k:Int)+1:=rfl
def pw{k l B:Nat}(h1:k<l)(h2:l<=B)(hB:B<=9223372036854775807) : -9223372036854775808<=(k:Int)+1/\(k:Int)+1<=9223372036854775807:=⟨by omega,by omega⟩
def sf.of{P:Program}{fn:Func}{Q:SV->Prop}{e:Ex}{f:Fm}{n:Nat}{S:List SO}{rs:List ResultVar}{vs:List SV}{r:SV}(he:kJ e=true)(hr:fn.results.toList=rs)(h:mT P f S rs=some vs)(hw:Wk S (dh vs) r)(hq:Q r):sf P fn Q e ⟨f,n,S,[]⟩:=by
 subst hr;exact⟨he,rfl,vs,r,h,hw,hq⟩
abbrev ae(s:List Nat):SV:=.a (.str s)
abbrev ab(n:Int):SV:=.a (.int .i64 n)
abbrev az(b:Bool):SV:=.a (.bool b)
def ak{α:Type}(e:Nat)(l:List α)(enc:α->List SV):SV:=.sl l.length e (l.flatMap enc)
def aG{α:Type}{e:Nat}{enc:α->List SV}(he:∀x,(enc x).length=e):∀{l:List α} {i:Nat} {x:α},l[i]?=some x->((l.flatMap enc).drop (i*e)).take e=enc x
 | [],i,x,h=>by simp at h
 | a::l,0,x,h=>by
  simp only[aj,Option.some.injEq] at h;subst h;rw[Nat.zero_mul,List.drop_zero,a6,List.take_append_of_le_length (by rw[he];exact a3 _),List.take_of_length_le (by rw[he];exact a3 _)]
 | a::l,i+1,x,h=>by
  simp only[af] at h;have ih:=aG he h;rw[a6,Nat.succ_mul,Nat.add_comm,<-a0,show List.drop e (enc a++l.flatMap enc)=l.flatMap enc from by rw[List.drop_append_of_le_length (by rw[he];exact a3 _),al (by rw[he];exact a3 _),List.nil_append]];exact ih
def js{α:Type}(p:α->Bool)(l:List α):Int:=match l.findIdx? p with
 | some k=>(k:Int)
 | none => -1
def lY{α:Type}{p:α->Bool}{l:List α}{k:Nat}{x:α}(h1:l[k]?=some x)(h2:p x=true)(h3:∀(i:Nat) y,i<k->l[i]?=some y->p y=false):js p l=(k:Int):=by
 have:l.findIdx? p=some k:=by
  rw[List.findIdx?_eq_some_iff_getElem];obtain⟨hlt,he⟩:=List.getElem?_eq_some_iff.1 h1;refine⟨hlt,by rw[he];exact h2,λj hj=>?_⟩;rw[h3 j _ hj (ad (by omega))];decide
 unfold js;rw[this]
def iC{α:Type}{p:α->Bool}{l:List α}(h3:∀(i:Nat) y,i<l.length->l[i]?=some y->p y=false):js p l = -1:=by
 have:l.findIdx? p=none:=by
  rw[List.findIdx?_eq_none_iff];intro x hx;obtain⟨i,hi⟩:=List.mem_iff_getElem?.1 hx;exact h3 i x (bD hi) hi
 unfold js;rw[this]
def aA{α:Type}(c:α->SV)(x:α):List SV:=[c x]
def PC.of{P:Program}{g:FuncId}{aS:List SV}{xs:List AV}{v:AV}(h:∀h,dC P (.func g) xs h (λa h'=>a=v/\h'=h))(hx:∀ρ avs,ki ρ aS avs->avs=xs):PC P g aS (·=.a v):=
 λρ hh avs h1 h2=>by
  have:=hx ρ avs h2;subst this;exact(h hh).mono λa h' ⟨e1,e2⟩=>⟨.a v,ρ,rfl,by rw[e2];exact .refl _ _,λid ob hi=>.inl hi,by rw[GS];exact e1⟩
def lM{α:Type}(e:Nat)(l:List α)(enc:α->List SV):ak e l enc=.sl l.length e (l.flatMap enc):=rfl
section
variable {P:Program} {K U:Type} [DecidableEq K] {kv:K->AV} {uv:U->SV} {S:List SO} {t kt et:TypeId} {z:AV} {u0:U} {l:List (K×U)} {o:Nat} {x:SV} {k:K}
def bz(kv:K->AV)(uv:U->SV)(l:List (K×U)):SO:=.map (l.map λe=>kv e.1) (l.map λe=>uv e.2) none
abbrev nZ(kv:K->AV)(uv:U->SV)(l:List (K×U)):SV:=.im (l.map λe=>kv e.1) (l.map λe=>uv e.2)
def mz(hk:Keys P kt kv)(k:K):∀(l:List (K×U)) (j:Nat),qn P kt (kv k) (l.map λe=>kv e.1) j=some (oT k l j)
 | [],_=>rfl
 | e::l,j=>by
  rw[a8,qn,hk.eq];by_cases h:k=e.1
  ·simp only[h,decide_true,oT,if_true]
  ·simp only[h,decide_false,oT,if_false];exact mz hk k l (j+1)
def tJ(hm:cW P t=some (kt,et))(hk:Keys P kt kv)(hz:du P et=some z)(hu:Ap z=uv u0)(hS:sy S x=some (l.map (λe=>kv e.1),l.map λe=>uv e.2)){y:SV}(hf:cG y=some (kv k))(ok:Bool):
 dW P S t x y ok=some (_root_.cond ok (.bE [uv (getM u0 k l),az (dy k l)]) (uv (getM u0 k l))):=by
 unfold dW;rw[hm,ac];simp only;rw[hf,ac,hk.ck,ai,hS,ac];simp only;rw[mz hk,ac]
 cases hp:oT k l 0 with
 | none=>
  have hn:=iH hp;simp only[hz,ay,qu hn,hn,hu]
 | some i=>
  obtain⟨_,u,h2,h3,_,h5⟩:=gC hp;rw[a9] at h2;simp only[a7,h2,ay,h3,h5]
def Ce(hm:cW P t=some (kt,et))(hk:Keys P kt kv)(hz:du P et=some z)(hu:Ap z=uv u0)(hS:S[o]?=some (bz kv uv l))(hf:cG x=some (kv k))(ok:Bool):
 dW P S t (.map o) x ok=some (_root_.cond ok (.bE [uv (getM u0 k l),az (dy k l)]) (uv (getM u0 k l))):=
 tJ hm hk hz hu (by simp only[sy,hS,bz]) hf ok
def Ob(hm:cW P t=some (kt,et))(hk:Keys P kt kv)(hz:du P et=some z)(hu:Ap z=uv u0)(hf:cG x=some (kv k))(ok:Bool):
 dW P S t (nZ kv uv l) x ok=some (_root_.cond ok (.bE [uv (getM u0 k l),az (dy k l)]) (uv (getM u0 k l))):=
 tJ hm hk hz hu (by simp only[nZ,sy]) hf ok
def GG(hm:cW P t=some (kt,et))(hk:Keys P kt kv)(hS:S[o]?=some (bz kv uv l))(hf:cG x=some (kv k))(u:U):
 fv P S t (.map o) x (uv u)=some (S.set o (bz kv uv (cw k u l))):=by
 unfold fv;rw[hm,ac];simp only;rw[hf,ac,hk.ck,ai,hS];simp only[bz];rw[mz hk,ac]
 cases hp:oT k l 0 with
 | none=>
  have hn:=iH hp;simp only[mS hn,List.map_append,a8,List.map_nil,Option.map_none]
 | some i=>
  obtain⟨_,u',h2,_,h4,_⟩:=gC hp;rw[a9] at h2;have h4:=h4 u;rw[a9] at h4;simp only[a7,h2,ay,ac,hk.st,ai,h4,List.map_set]
omit [DecidableEq K] in
def kM{n:Nat}(h:∀u,names n (uv u)=false):bQ n (bz kv uv l)=bz kv uv l:=by
 simp only[bQ,bz,List.map_map]
 congr 1
 refine List.map_congr_left λe _=>?_;simp only[Function.comp,bf,h,an]
omit [DecidableEq K] in
def eK(h:∀u,lB (uv u)=true):∀l:List (K×U),cr (l.map λe=>uv e.2)=true
 | []=>rfl
 | e::l=>by rw[a8,cr,h,ax];exact eK h l
omit [DecidableEq K] in
def nU(h:∀u,lB (uv u)=true)(hS:S[o]?=some (bz kv uv l)):Wk S (.map o) (nZ kv uv l):=Wk.map hS (bp.refl (eK h l))
end
def N1{P:Program}{kt:TypeId}(h:P.underlying kt=some .string):Keys P kt AV.str where
 eq a b:=by unfold lA;rw[h];simp only[mG]
 ck a:=by unfold tG Fv;rw[h]
 st a:=by unfold stays DQ;simp only[mJ,Bool.true_and];exact BR _ _
def Ds{n:Nat}{l:List (List Nat×Bool)}:bQ n (bz AV.str az l)=bz AV.str az l:=kM λ_=>jo _
def RE{n:Nat}{l:List (List Nat×Int)}:bQ n (bz AV.str ab l)=bz AV.str ab l:=kM λ_=>jo _
inductive Kd where
 | b
 | i (k:IntKind)
 | s
def MW:Kd->AV->Bool
 | .b,.bool _=>true
 | .i k,.int k' _=>yV k k'
 | .s,.str _=>true
 | _,_=>false
def rP:List Kd->List AV->Bool
 | [],[]=>true
 | k::ks,x::xs=>MW k x&&rP ks xs
 | _,_=>false
def yG(P:Program)(rec:TypeId->Option (List Kd)):List Field->Nat->Option (List Kd)
 | [],_=>some []
 | f::fs,off=>cond (!(f.name== "_")&&beq f.offset off) ((rec f.type).bind λks=>(yG P rec fs (off+ks.length)).map λr=>ks++r) none
def flatK(P:Program):Nat->TypeId->Option (List Kd)
 | 0,_=>none
 | d+1,t=>match P.underlying t,bT P t with
  | some .bool,some (1,false)=>some [.b]
  | some (.int k),some (1,false)=>some [.i k]
  | some .string,some (1,false)=>some [.s]
  | some (.struct fs),some (n,true)=>cond (P.stoodInHeld t) none ((yG P (flatK P d) fs.toList 0).bind λks=>cond (beq ks.length n) (some ks) none)
  | _,_=>none
def yW:∀{ks:List Kd} {xs:List AV},rP ks xs=true->xs.length=ks.length
 | [],[],_=>rfl
 | [],_::_,h=>by cases h
 | _::_,[],h=>by cases h
 | k::ks,x::xs,h=>by
  rw[rP,aa] at h;simp[yW h.2]
def sE:∀{k1 k2:List Kd} {xs:List AV},rP (k1++k2) xs=true->rP k1 (xs.take k1.length)=true/\rP k2 (xs.drop k1.length)=true
 | [],k2,xs,h=>⟨rfl,h⟩
 | k::k1,k2,[],h=>by cases h
 | k::k1,k2,x::xs,h=>by
  have h:(MW k x&&rP (k1++k2) xs)=true:=h;rw[aa] at h;obtain⟨h1,h2⟩:=sE h.2;exact⟨by show(MW k x&&rP k1 (xs.take k1.length))=true;rw[h.1,h1];rfl,h2⟩
def ye(e:AV->AV->Bool):∀(n:Nat) {xs ys:List AV},xs.length=ys.length->gT e xs ys=(gT e (xs.take n) (ys.take n)&&gT e (xs.drop n) (ys.drop n))
 | 0,xs,ys,_=>by rw[List.take_zero,List.take_zero];rfl
 | n+1,[],[],_=>rfl
 | n+1,x::xs,y::ys,h=>by
  have h:xs.length=ys.length:=by simpa using h
  show(e x y&&gT e xs ys)=((e x y&&gT e (xs.take n) (ys.take n))&&gT e (xs.drop n) (ys.drop n));rw[ye e n h,Bool.and_assoc]
 | n+1,[],y::ys,h=>by simp at h
 | n+1,x::xs,[],h=>by simp at h
section
variable {P:Program}
def EqAt(P:Program)(d:Nat)(t:TypeId)(ks:List Kd):Prop:=
 (∃k,ks=[k]/\bT P t=some (1,false)/\∀x y,MW k x=true->MW k y=true->lA P d t x y=some (gd x y)/\Fv P d t x=true)\/
 (bT P t=some (ks.length,true)/\∀xs ys,rP ks xs=true->rP ks ys=true->lA P d t (.agg xs) (.agg ys)=some (gT gd xs ys)/\Fv P d t (.agg xs)=true)
def BV{d:Nat}(hrec:∀t ks,flatK P d t=some ks->EqAt P d t ks):∀{fs:List Field} {off:Nat} {ks:List Kd},yG P (flatK P d) fs off=some ks->∀xs ys,xs.length=ys.length->off+ks.length=xs.length->rP ks (xs.drop off)=true->rP ks (ys.drop off)=true->
 eqFields P (lA P d) fs xs ys=some (gT gd (xs.drop off) (ys.drop off))/\oC P (Fv P d) fs xs=true
 | [],off,ks,h,xs,ys,hl,hle,h1,h2=>by
  simp only[yG,Option.some.injEq] at h;subst h;have e1:xs.drop off=[]:=List.drop_of_length_le (by simp at hle;omega);have e2:ys.drop off=[]:=List.drop_of_length_le (by simp at hle;omega);rw[e1,e2];exact⟨rfl,rfl⟩
 | f::fs,off,ks,h,xs,ys,hl,hle,h1,h2=>by
  simp only[yG] at h;obtain⟨hb,h⟩:=aL h;rw[Bool.and_eq_true] at hb;have hoff:=cU hb.2
  have hnm:(f.name== "_")=false:=by have:=hb.1;cases hq:(f.name== "_");rfl;rw[hq] at this;cases this
  obtain⟨k1,hk1,h⟩:=Option.bind_eq_some_iff.1 h;obtain⟨r,hr,rfl⟩:=aq h;obtain⟨a1,a2⟩:=sE h1;obtain⟨b1,b2⟩:=sE h2;rw[List.drop_drop] at a2 b2;rw[List.length_append] at hle;obtain⟨ih1,ih2⟩:=BV hrec hr xs ys hl (by omega) a2 b2;have hs:=ye gd k1.length (xs:=xs.drop off) (ys:=ys.drop off) (by rw[List.length_drop,List.length_drop,hl]);rw[List.drop_drop,List.drop_drop] at hs
  have hpart:∃p q,fa P f.type xs f.offset=some p/\fa P f.type ys f.offset=some q/\lA P d f.type p q=some (gT gd ((xs.drop off).take k1.length) ((ys.drop off).take k1.length))/\Fv P d f.type p=true:=by
   rw[hoff]
   rcases hrec _ _ hk1 with⟨k,rfl,hz,hq⟩ | ⟨hz,hq⟩
   ·obtain⟨z1,z2⟩:=uI hz;simp only[List.length_cons,List.length_nil,Nat.zero_add] at hle a1 b1 ⊢;obtain⟨x,hx⟩:∃x,xs[off]?=some x:=⟨xs[off],List.getElem?_eq_getElem (by omega)⟩;obtain⟨y,hy⟩:∃y,ys[off]?=some y:=⟨ys[off],List.getElem?_eq_getElem (by omega)⟩
    have ex:(xs.drop off).take 1=[x]:=by rw[List.take_one,List.head?_drop,hx];rfl
    have ey:(ys.drop off).take 1=[y]:=by rw[List.take_one,List.head?_drop,hy];rfl
    rw[ex] at a1;rw[ey] at b1;simp only[rP,Bool.and_true] at a1 b1;obtain⟨q1,q2⟩:=hq x y a1 b1;refine⟨x,y,?_,?_,?_,q2⟩
    ·unfold fa;rw[z1];exact hx
    ·unfold fa;rw[z1];exact hy
    ·rw[ex,ey,q1];simp only[gT,Bool.and_true]
   ·obtain⟨z1,z2⟩:=uI hz;obtain⟨q1,q2⟩:=hq _ _ a1 b1;refine⟨_,_,?_,?_,q1,q2⟩
    ·unfold fa;rw[z1];simp only;rw[z2,Option.bind_some,eN (by simp only;omega),ai]
    ·unfold fa;rw[z1];simp only;rw[z2,Option.bind_some,eN (by simp only;omega),ai]
  obtain⟨p,q,g1,g2,g3,g4⟩:=hpart;refine⟨?_,?_⟩
  ·unfold eqFields;rw[hnm,an,g1,g2];simp only;rw[g3,hs];cases gT gd ((xs.drop off).take k1.length) ((ys.drop off).take k1.length)
   ·rfl
   ·simp only[Bool.true_and];exact ih1
  ·unfold oC;rw[hnm,g1];simp only;rw[g4,ih2];rfl
def yH:∀(d:Nat) (t:TypeId) (ks:List Kd),flatK P d t=some ks->EqAt P d t ks
 | 0,t,ks,h=>by simp[flatK] at h
 | d+1,t,ks,h=>by
  unfold flatK at h;split at h
  ·rename_i hu hz;cases h;refine .inl ⟨.b,rfl,hz,λx y hx hy=>?_⟩
   cases x<;>first | (simp[MW] at hx;done) | skip
   cases y<;>first | (simp[MW] at hy;done) | skip
   rename_i a b;constructor
   ·unfold lA;rw[hu];simp only[gd];cases a<;>cases b<;>rfl
   ·unfold Fv;rw[hu]
  ·rename_i k hu hz;cases h;refine .inl ⟨.i k,rfl,hz,λx y hx hy=>?_⟩
   cases x<;>first | (simp[MW] at hx;done) | skip
   cases y<;>first | (simp[MW] at hy;done) | skip
   rename_i k1 a k2 b;simp only[MW] at hx hy
   have e1:k=k1:=by cases k<;>cases k1<;>first | rfl | cases hx
   have e2:k=k2:=by cases k<;>cases k2<;>first | rfl | cases hy
   subst e1;subst e2;constructor
   ·unfold lA;rw[hu];simp only[gd,hx,ai,Bool.true_and]
   ·unfold Fv;rw[hu]
  ·rename_i hu hz;cases h;refine .inl ⟨.s,rfl,hz,λx y hx hy=>?_⟩
   cases x<;>first | (simp[MW] at hx;done) | skip
   cases y<;>first | (simp[MW] at hy;done) | skip
   constructor
   ·unfold lA;rw[hu];rfl
   ·unfold Fv;rw[hu]
  ·rename_i fs n hu hz;cases hst:P.stoodInHeld t
   ·rw[hst,an] at h;obtain⟨ks',hk,h⟩:=Option.bind_eq_some_iff.1 h;obtain⟨hn,h⟩:=aL h;cases h;have hn:=cU hn;subst hn;refine .inr ⟨hz,λxs ys hx hy=>?_⟩;have l1:=yW hx;have l2:=yW hy;obtain⟨r1,r2⟩:=BV (yH d) hk xs ys (by omega) (by omega) hx hy;constructor
    ·unfold lA;rw[hu];simp only;rw[hst,an];exact r1
    ·unfold Fv;rw[hu];exact r2
   ·rw[hst] at h;cases h
  ·cases h
def vu{K:Type}[DecidableEq K]{t:TypeId}{ks:List Kd}{cells:K->List AV}(hf:flatK P 4 t=some ks)(ha:(bT P t).map (·.2)=some true)(hk:∀a,rP ks (cells a)=true)(he:∀a b,gT gd (cells a) (cells b)=decide (a=b))(hfl:∀a,(cells a).all mJ=true):Keys P t λa=>.agg (cells a):=by
 have key:∀a b,lA P 4 t (.agg (cells a)) (.agg (cells b))=some (decide (a=b))/\Fv P 4 t (.agg (cells a))=true:=by
  intro a b
  rcases yH 4 t ks hf with⟨k,rfl,hz,_⟩ | ⟨_,hq⟩
  ·rw[hz] at ha;cases ha
  ·rw[<-he a b];exact hq _ _ (hk a) (hk b)
 refine⟨λa b=>(key a b).1,λa=>(key a a).2,λa=>?_⟩;unfold stays DQ;show((cells a).all mJ&&gW 3 (.agg (cells a)) (.agg (cells a)))=true;rw[hfl a,ax];refine LG _ _ ?_
 have:∀l:List AV,l.all mJ=true->gT (gW 2) l l=true:=by
  intro l
  induction l with
  | nil=>intro _;rfl
  | cons x l ih=>
   intro h;rw[List.all_cons,aa] at h;show(gW 2 x x&&gT (gW 2) l l)=true;rw[ih h.2,a5]
   cases x<;>first | (cases h.1;done) | exact Io _ _ | exact LH _ _ _ | exact BR _ _
 exact this _ (hfl a)
def E9{t:TypeId}{ks:List Kd}{xs ys:List AV}{b:Bool}(hg:P.eqGuardType P.depth t=false)(hf:flatK P 8 t=some ks)(ha:(bT P t).map (·.2)=some true)(hx:rP ks xs=true)(hy:rP ks ys=true)(he:gT gd xs ys=b):cS P .eql t (.agg xs) (.agg ys)=some (.bool b):=by
 have:lA P 8 t (.agg xs) (.agg ys)=some b:=by
  rcases yH 8 t ks hf with⟨k,rfl,hz,_⟩ | ⟨_,hq⟩
  ·rw[hz] at ha;cases ha
  ·rw[<-he];exact(hq _ _ hx hy).1
 show cond (P.eqGuardType P.depth t) none ((lA P 8 t (.agg xs) (.agg ys)).map AV.bool)=_;rw[hg,an,this];rfl
end
mutual
def fU(r:Nat->Nat):SV->SV
 | .any=>.any
 | .a v=>.a v
 | .sl n e cs=>.sl n e cs
 | .im ks vs=>.im ks vs
 | .ip cs=>.ip cs
 | .ptr o off=>.ptr (r o) off
 | .map o=>.map (r o)
 | .buf o n e c=>.buf (r o) n e c
 | .sub o off n e c=>.sub (r o) off n e c
 | .e0 e=>.e0 e
 | .ag cs=>.ag (kh r cs)
 | .bE cs=>.bE (kh r cs)
 | .fn g a b=>.fn g (kh r a) (kh r b)
 | .iface t v=>.iface t (fU r v)
def kh(r:Nat->Nat):List SV->List SV
 | []=>[]
 | d::ds=>fU r d::kh r ds
end
def QG(r:Nat->Nat):Fm->Fm
 | []=>[]
 | (d,v)::f=>(d,fU r v)::QG r f
def nk(r:Nat->Nat):SO->SO
 | .cells cs=>.cells (kh r cs)
 | .map ks vs b=>.map ks (kh r vs) b
 | .iter m bs c pos=>.iter (fU r m) bs c pos
 | .oL ks vs bs c pos=>.oL ks vs bs c pos
 | .gone=>.gone
 | .loop c ls p f=>.loop c ls p (QG r f)
 | .ox N=>.ox N
def jC(os:List Nat)(B i:Nat):Nat:=match os[i]? with
 | some o=>o
 | none=>B+(i-os.length)
mutual
def dI(B:Nat):SV->Bool
 | .ptr o _=>decide (o<B)
 | .map o=>decide (o<B)
 | .buf o _ _ _=>decide (o<B)
 | .sub o _ _ _ _=>decide (o<B)
 | .ag cs=>fq B cs
 | .bE cs=>fq B cs
 | .fn _ a b=>fq B a&&fq B b
 | .iface _ v=>dI B v
 | _=>true
def fq(B:Nat):List SV->Bool
 | []=>true
 | d::ds=>dI B d&&fq B ds
end
def C9(B:Nat):Fm->Bool
 | []=>true
 | (_,v)::f=>dI B v&&C9 B f
def kl(B:Nat):SO->Bool
 | .cells cs=>fq B cs
 | .map _ vs _=>fq B vs
 | .iter m _ _ _=>dI B m
 | .oL _ _ _ _ _=>true
 | .gone=>true
 | .loop _ _ _ f=>C9 B f
 | .ox _=>true
def uU(B:Nat):List SO->Bool
 | []=>true
 | s::l=>kl B s&&uU B l
def mN:List Nat->SV->SV
 | [],v=>v
 | k::ks,v=>mN ks (bf k v)
def oe:List Nat->Fm->Fm
 | [],f=>f
 | k::ks,f=>oe ks (dJ k f)
def jt:List Nat->List SO->List SO
 | [],S=>S
 | k::ks,S=>jt ks (dB k S)
def jB:List SO->List Nat->List SO->List SO
 | S,[],ss=>S++ss
 | S,o::os,s::ss=>jB (S.set o s) os ss
 | S,_::_,[]=>S
section
variable {θ θ':Nat->Loc} {ρ ρ0 ρ':kg} {P:Program} {h0:En} {h h1:H} {S S' S0:List SO}
mutual
def VS.rn(r:Nat->Nat):∀{v:SV} {x:AV},VS θ ρ (fU r v) x↔VS (λp=>θ (r p)) ρ v x
 | .any,_=>by rw[fU,VS,VS]
 | .a v,x=>by rw[fU,VS,VS]
 | .sl n e cs,x=>by rw[fU,VS,VS]
 | .im ks vs,x=>by rw[fU,VS,VS]
 | .ip cs,x=>by rw[fU,VS,VS]
 | .ptr p _,_=>by rw[fU,VS,VS]
 | .map p,_=>by rw[fU,VS,VS]
 | .buf p _ _ _,_=>by rw[fU,VS,VS]
 | .sub p _ _ _ _,_=>by rw[fU,VS,VS]
 | .e0 _,_=>by rw[fU,VS,VS]
 | .ag cs,x=>by rw[fU,VS,VS];exact exists_congr λ_=>and_congr_right λ_=>c7.rn r
 | .bE cs,x=>by rw[fU,VS,VS];exact exists_congr λ_=>and_congr_right λ_=>c7.rn r
 | .fn g f c,x=>by rw[fU,VS,VS];exact exists_congr λ_=>exists_congr λ_=>and_congr_right λ_=>and_congr (c7.rn r) (c7.rn r)
 | .iface t v,x=>by rw[fU,VS,VS];exact exists_congr λ_=>and_congr_right λ_=>VS.rn r
def c7.rn(r:Nat->Nat):∀{ds:List SV} {aS:List AV},c7 θ ρ (kh r ds) aS↔c7 (λp=>θ (r p)) ρ ds aS
 | [],aS=>by rw[kh,aQ,aQ]
 | d::ds,aS=>by rw[kh,aK,aK];exact exists_congr λ_=>exists_congr λ_=>and_congr_right λ_=>and_congr (VS.rn r) (c7.rn r)
end
def xS(r:Nat->Nat):∀(f:Fm) (i:Nat),aX (QG r f) i=fU r (aX f i)
 | [],i=>by rw[show aX [] i=.any from rfl,fU];rfl
 | (d,v)::f,i=>by
  show(if d=i then fU r v else aX (QG r f) i)=fU r (if d=i then v else aX f i);rw[xS r f i];by_cases h:d=i
  ·rw[ul h,ul h]
  ·rw[un h,un h]
def Fi{B:Nat}:∀{f:Fm} {i:Nat},C9 B f=true->dI B (aX f i)=true
 | [],i,_=>by rw[show aX ([]:Fm) i=.any from rfl];simp[dI]
 | (d,v)::f,i,h=>by
  rw[C9,aa] at h;show dI B (if d=i then v else aX f i)=true;by_cases e:d=i
  ·rw[ul e];exact h.1
  ·rw[un e];exact Fi h.2
def nj.rn(r:Nat->Nat){L:Loc}{so:SO}:nj θ ρ h L (nk r so)↔nj (λp=>θ (r p)) ρ h L so:=by
 cases so with
 | cells cs=>exact exists_congr λ_=>and_congr_right λ_=>and_congr_left λ_=>c7.rn r
 | map ks vs b=>exact exists_congr λ_=>exists_congr λ_=>and_congr_right λ_=>and_congr_right λ_=>c7.rn r
 | iter m bs c pos=>exact exists_congr λ_=>and_congr_left λ_=>VS.rn r
 | oL ks vs bs c pos=>exact Iff.rfl
 | gone=>exact Iff.rfl
 | loop c ls p f=>exact and_congr_right λ_=>and_congr_right λ_=>forall_congr' λi=>forall_congr' λ_=>by rw[xS];exact VS.rn r
 | ox N=>exact Iff.rfl
def fc{r:Nat->Nat}{so:SO}:nk r so≠.gone↔so≠.gone:=by
 cases so<;>simp[nk]
mutual
def VS.lF{B:Nat}(hθ:∀q,q<B->(θ' q).id=(θ q).id):∀{v:SV} {x:AV},dI B v=true->VS θ ρ v x->VS θ' ρ v x
 | .any,_,_,_=>by rw[VS];trivial
 | .a v,x,_,h=>by rw[VS] at h ⊢;exact h
 | .sl n e cs,x,_,h=>by rw[VS] at h ⊢;exact h
 | .im ks vs,x,_,h=>by rw[VS] at h ⊢;exact h
 | .ip cs,x,_,h=>by rw[VS] at h ⊢;exact h
 | .ptr p _,_,hn,h=>by rw[VS] at h ⊢;rw[dI] at hn;rw[hθ p (ww hn)];exact h
 | .map p,_,hn,h=>by rw[VS] at h ⊢;rw[dI] at hn;rw[hθ p (ww hn)];exact h
 | .buf p _ _ _,_,hn,h=>by rw[VS] at h ⊢;rw[dI] at hn;rw[hθ p (ww hn)];exact h
 | .sub p _ _ _ _,_,hn,h=>by rw[VS] at h ⊢;rw[dI] at hn;rw[hθ p (ww hn)];exact h
 | .e0 e,x,_,h=>by rw[VS] at h ⊢;exact h
 | .ag cs,x,hn,h=>by rw[VS] at h ⊢;rw[dI] at hn;obtain⟨aS,h1,h2⟩:=h;exact⟨aS,h1,c7.lF hθ hn h2⟩
 | .bE cs,x,hn,h=>by rw[VS] at h ⊢;rw[dI] at hn;obtain⟨aS,h1,h2⟩:=h;exact⟨aS,h1,c7.lF hθ hn h2⟩
 | .fn g f c,x,hn,h=>by
  rw[VS] at h ⊢;rw[dI,aa] at hn;obtain⟨xs,ys,h1,h2,h3⟩:=h;exact⟨xs,ys,h1,c7.lF hθ hn.1 h2,c7.lF hθ hn.2 h3⟩
 | .iface t v,x,hn,h=>by rw[VS] at h ⊢;rw[dI] at hn;obtain⟨y,h1,h2⟩:=h;exact⟨y,h1,VS.lF hθ hn h2⟩
def c7.lF{B:Nat}(hθ:∀q,q<B->(θ' q).id=(θ q).id):∀{ds:List SV} {aS:List AV},fq B ds=true->c7 θ ρ ds aS->c7 θ' ρ ds aS
 | [],aS,_,h=>by rw[aQ] at h ⊢;exact h
 | d::ds,aS,hn,h=>by
  rw[aK] at h ⊢;rw[fq,aa] at hn;obtain⟨a,r,h1,h2,h3⟩:=h;exact⟨a,r,h1,VS.lF hθ hn.1 h2,c7.lF hθ hn.2 h3⟩
end
def nj.lF{B:Nat}(hθ:∀q,q<B->(θ' q).id=(θ q).id){L:Loc}{so:SO}(hn:kl B so=true)(hx:nj θ ρ h L so):nj θ' ρ h L so:=by
 cases so with
 | cells cs=>obtain⟨aS,h1,h2,h3⟩:=hx;exact⟨aS,h1,h2.lF hθ hn,h3⟩
 | map ks vs b=>obtain⟨l,c,h1,h2,h3⟩:=hx;exact⟨l,c,h1,h2,h3.lF hθ hn⟩
 | iter m bs c pos=>obtain⟨kY,h1,h2⟩:=hx;exact⟨kY,h1.lF hθ hn,h2⟩
 | oL ks vs bs c pos=>exact hx
 | gone=>trivial
 | loop c ls p f=>
  obtain⟨h1,h2,h3⟩:=hx;exact⟨h1,h2,λi hi=>(h3 i hi).lF hθ (Fi hn)⟩
 | ox N=>exact hx
def Fj{B:Nat}:∀{S:List SO} {i:Nat} {so:SO},uU B S=true->S[i]?=some so->kl B so=true
 | [],i,so,_,h=>by simp at h
 | s::l,0,so,hb,h=>by rw[uU,aa] at hb;simp only[aj,Option.some.injEq] at h;subst h;exact hb.1
 | s::l,i+1,so,hb,h=>by rw[uU,aa] at hb;exact Fj hb.2 (by simpa using h)
def HQ(θ:Nat->Loc):List Nat->(Nat->Loc)->Nat->Loc
 | [],_=>θ
 | k::ks,θ'=>HQ (gP θ k (θ' k)) ks θ'
def x6:∀{ks:List Nat} {θ:Nat->Loc} {p:Nat},(p∈ks\/θ p=θ' p)->HQ θ ks θ' p=θ' p
 | [],θ,p,h=>by rcases h with h | h;(· simp at h);(· exact h)
 | k::ks,θ,p,h=>by
  rw[HQ];by_cases e:p=k
  ·subst e;exact x6 (.inr (cC _ _ _))
  ·rcases h with h | h
   ·rcases List.mem_cons.1 h with h | h
    ·exact t8 h e
    ·exact x6 (.inl h)
   ·exact x6 (.inr (by rw[bW _ _ e];exact h))
def HS:∀{ks:List Nat} {θ:Nat->Loc} {p:Nat},p∉ks->HQ θ ks θ' p=θ p
 | [],θ,p,h=>rfl
 | k::ks,θ,p,h=>by
  rw[HQ,HS (λe=>h (ap _ e)),bW _ _ (λe=>h (by rw[e];exact aR))]
def FY:∀{ks:List Nat} {θ:Nat->Loc} {v:SV} {x:AV},VS θ ρ v x->VS (HQ θ ks θ') ρ (mN ks v) x
 | [],θ,v,x,h=>h
 | k::ks,θ,v,x,h=>by
  rw[HQ,mN];exact FY (je (θ':=gP θ k (θ' k)) (λp hp=>bW _ _ hp) h)
def yD:∀(ks:List Nat) (f:Fm) (i:Nat),aX (oe ks f) i=mN ks (aX f i)
 | [],f,i=>rfl
 | k::ks,f,i=>by rw[oe,mN,yD ks,my]
def ju:∀(ks:List Nat) (S:List SO),(jt ks S).length=S.length
 | [],S=>rfl
 | k::ks,S=>by rw[jt,ju ks];unfold dB;rw[List.length_map]
def L6{f g:SV->SV}(so:SO):sG f (sG g so)=sG (λv=>f (g v)) so:=by cases so<;>simp[sG]
def yY:∀(ks:List Nat) (S:List SO) (p:Nat),(jt ks S)[p]?=(S[p]?).map (sG (mN ks))
 | [],S,p=>by
  show S[p]?=_
  cases S[p]? with
  | none=>rfl
  | some s=>rw[ay];exact congrArg some (tL s).symm
 | k::ks,S,p=>by
  rw[jt,yY ks,rj]
  cases S[p]? with
  | none=>rfl
  | some s=>simp only[ay,L6];rfl
def CC:∀{os:List Nat} {S ss:List SO} (p:Nat),os.Nodup->(∀o∈os,o<S.length)->os.length<=ss.length->
 (∀i:Nat,os[i]?=some p->(jB S os ss)[p]?=ss[i]?)/\(p∉os->p<S.length->(jB S os ss)[p]?=S[p]?)/\(S.length<=p->(jB S os ss)[p]?=ss[os.length+(p-S.length)]?)
 | [],S,ss,p,_,_,_=>by
  refine⟨λi h=>by simp at h,λ_ hl=>?_,λhl=>?_⟩
  ·rw[jB,List.getElem?_append_left hl]
  ·rw[jB,List.getElem?_append_right hl,bd,bk]
 | o::os,S,[],p,_,_,hl=>by simp at hl
 | o::os,S,s::ss,p,hn,ho,hl=>by
  rw[List.nodup_cons] at hn;have ih:=CC (os:=os) (S:=S.set o s) (ss:=ss) p hn.2 (λx hx=>by rw[be];exact ho x (ap _ hx)) (by simpa using hl);have hol:=ho o aR;rw[be] at ih;refine⟨λi h=>?_,λh1 h2=>?_,λh1=>?_⟩
  ·cases i with
   | zero=>
    simp only[aj,Option.some.injEq] at h;subst h;rw[jB,ih.2.1 hn.1 hol,List.getElem?_set_self hol];rfl
   | succ i=>
    simp only[af] at h;rw[jB,ih.1 i h];rfl
  ·rw[jB,ih.2.1 (λe=>h1 (ap _ e)) h2,List.getElem?_set_ne (λe=>h1 (by rw[e];exact aR))]
  ·rw[jB,ih.2.2 h1,ba,show os.length+1+(p-S.length)=os.length+(p-S.length)+1 by omega,af]
def SC(P:Program)(g:FuncId)(args:List SV)(S0:List SO)(mv:List Nat)(Q:SV->List SO->Prop):Prop:=
 ∀(E:En) θ ρ h avs,E.h={ h with low:=h.next }->RS θ ρ ρ E E.h S0->c7 θ ρ args avs->
  dC P (.func g) avs h (λv h'=>∃r S' θ' ρ' h1,Q r S'/\h'={ h1 with low:=gw h.low h1.low }/\RS θ' ρ ρ' E h1 S'/\VS θ' ρ' r v/\S0.length<=S'.length/\∀i,i<S0.length->i∉mv->(θ' i).id=(θ i).id)
end
end
end Go.Ev
