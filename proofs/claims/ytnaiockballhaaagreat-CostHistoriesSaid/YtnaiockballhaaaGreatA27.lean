/- A part of the texts of this claim: every theorem says what it proves, with its conditions. -/
import Derived.Test.YtnaiockballhaaaGreatA26
import Derived.Test.YtnaiockballhaaaGreatA23
import Derived.Test.YtnaiockballhaaaGreatA18
import Derived.Test.YtnaiockballhaaaGreatA11
import Derived.Test.YtnaiockballhaaaGreatA10
import Derived.Shelf.SlGeneric
import Derived.Shelf.SortM.Plain
import Derived.Shelf.SortM.SortNone
import Derived.Ground.SlgmProg
import Derived.Test.YtnaiockballhaaaGreatProg
set_option linter.unusedSimpArgs false
set_option linter.unusedVariables false
set_option linter.unusedSectionVars false
open List (length_map getElem?_eq_getElem length_nil take_zero getElem?_map length_append take_of_length_le append_nil flatten_nil getElem?_drop replicate mem_map range)
open Nat (reduceSub mul_one reduceAdd reduceEqDiff reduceLT reduceLeDiff reduceMul zero_le le_refl add_zero)
open Option (map_some bind_some)
open Bool (not_eq_true')
namespace Go.Proofs
open Go.Ev
set_option maxRecDepth 100000
def gW(l:List (List Nat)):List SV:=[an 1 l (az ak)]
def oC(o:Nat)(l:List (List Nat)):SV:=if l=[] then cC else .buf o l.length 1 none
def MK(l:List (List Nat)):List SO:=if l=[] then [] else [.cells (l.flatMap (az ak))]
theorem AB{α:Type}(ls:List (List α)){k:Nat}{x:List α}(h:ls[k]?=some x):(ls.take (k+1)).flatten=(ls.take k).flatten++x:=by
 rw[List.take_add_one,h];simp
theorem uX{α:Type}(ls:List (List α))(k:Nat):(ls.take k).flatten.length<=ls.flatten.length:=by
 conv=>rhs;rw[<-List.take_append_drop k ls]
 rw[List.flatten_append,length_append];omega
theorem Fp(ls:List (List (List Nat)))(hl:ls.length<=1000000)(hb:ls.flatten.length<=1000000):
 SC Tryz.prog 146 [an 1 ls gW] [] [] (λr S'=>r=oC 0 ls.flatten/\S'=MK ls.flatten):=by
 refine Jl 36 Tryz.func146 ?_;have hlen:=hl;refine kQ ?_;refine zV ?_;refine zs ?_;refine zL ls (λk=>True) (λk=>[(0,an 1 ls gW),(3,aa ((ls.take k).flatten.length:Nat)),(9,an 1 ls gW),(10,aa ls.length),(11,aa k)]) (λk=>[]) (Fg.less (by (simp only[bx,aX,cw,↓reduceIte,reduceEqDiff,an,take_zero,flatten_nil,length_nil])<;>(repeat' apply And.intro)<;>first | rfl | trivial) (by (simp only[bx,aX,or_true,true_or,an,take_zero,flatten_nil,length_nil])<;>(repeat' apply And.intro)<;>first | exact .inr rfl | exact .inl rfl | trivial)) zp ?_;intro k hk hall;refine zV ?_;by_cases hlt:k<ls.length;rotate_left;obtain rfl:k=ls.length:=(by omega);rw[zf];rotate_left;rw[zt hlt];obtain⟨x,hx⟩:=zx hlt;rotate_left;rotate_left
 ·refine zY ?_;have h1:=AB ls hx;have h2:=uX ls (k+1)
  have h3:(((ls.take k).flatten.length:Nat):Int)+((x.length:Nat):Int)=(((ls.take (k+1)).flatten.length:Nat):Int):=by rw[h1,length_append];omega
  have h4:decide ((((ls.take (k+1)).flatten.length:Nat):Int)<0)=false:=by simp
  (repeat refine ai.seq ?_)
  refine ai.block ?_;refine aE (n3 hlt (aH (e:=1) (enc:=gW) (λ_=>rfl) hx) @gW.eq_1) ?_;refine aE (n2 (nh (show -9223372036854775808<=(((ls.take k).flatten.length:Nat):Int)+((x.length:Nat):Int)/\(((ls.take k).flatten.length:Nat):Int)+((x.length:Nat):Int)<=9223372036854775807 from⟨by omega,by omega⟩)) h3) ?_;refine aE h4 ?_;refine zN ?_;refine aE (zi hlt hlen) ?_;refine zX hlt zH trivial
 refine zN ?_;refine ai.exit ?_;have htk:ls.take ls.length=ls:=List.take_length;by_cases h0:ls.flatten=[]
 ·have h0':((ls.flatten.length:Nat):Int)=0:=by rw[h0];rfl
  refine zC ?_;rw[htk];refine zS [] trivial zJ ?_ (hc:=Gh h0');refine zR ?_;refine zV ?_;refine zs ?_;refine zL ls (λk2=>True) (λk2=>[(6,cC),(25,an 1 ls gW),(26,aa ls.length),(27,aa k2)]) (λk2=>[]) zH zp ?_;intro k2 hk2 hall2;refine zV ?_;by_cases hlt2:k2<ls.length;rotate_left;obtain rfl:k2=ls.length:=(by omega);rw[zf];rotate_left;rw[zt hlt2];obtain⟨x2,hx2⟩:=zx hlt2;rotate_left
  ·refine zN ?_;refine ai.exit ?_;refine zV ?_;refine zE ?_;exact zP [.tmp 2] (hq:=by (try simp only[aC,ab]);first | done | (rw[oC,MK,if_pos h0,if_pos h0];exact⟨rfl,rfl⟩))
  refine zY ?_
  have hx0:x2=[]:=by
   have:=List.mem_iff_getElem?.2 ⟨k2,hx2⟩;exact List.flatten_eq_nil_iff.1 h0 x2 this
  subst hx0
  (repeat refine ai.seq ?_)
  refine ai.block ?_;refine aE (n3 hlt2 (aH (e:=1) (enc:=gW) (λ_=>rfl) hx2) @gW.eq_1) ?_;refine aE @length_nil.{0} ?_;refine aE (zi hlt2 hlen) ?_;refine zX hlt2 zH trivial
 have hpos:0<ls.flatten.length:=by
  cases h:ls.flatten with
  | nil=>exact absurd h h0
  | cons a l=>rw[List.length_cons];omega
 refine zC ?_;rw[htk];refine aM.sk [] (by rfl) rfl rfl (by rfl) rfl zc (CI ls.flatten.length hpos hb) (by simp only[ec,aX,an,↓reduceIte,reduceEqDiff,reduceAdd,reduceSub,reduceMul,reduceLeDiff,reduceLT,reduceSub];first | done | rfl) rfl (by decide) (by simp only[rb,ec,aX,an,reduceSub]<;>(repeat' apply And.intro)<;>first | trivial | rfl | (intro hh;cases hh)) (by simp only[vN,ec,aX,an,reduceAdd,reduceLT,decide_true,reduceSub];first | done | rfl) (by simp only[vN,ec,aX,an,reduceAdd,reduceLT,decide_true,reduceSub];first | done | rfl) (by simp only[ec,aX,an,↓reduceIte,reduceEqDiff,reduceAdd,reduceSub,reduceMul,reduceLeDiff,reduceLT,reduceSub];first | done | rfl) (by simp only[ec,aX,an,↓reduceIte,reduceEqDiff,reduceAdd,reduceSub,reduceMul,reduceLeDiff,reduceLT,reduceSub,dz,dq,bP,bf,bx];first | done | rfl) (by simp only[ec,aX,an,↓reduceIte,reduceEqDiff,reduceAdd,reduceSub,reduceMul,reduceLeDiff,reduceLT,reduceSub,dz,dq,bP,bf,bx];first | done | rfl) ?_;refine zR ?_;refine zV ?_;refine zs ?_;refine ai.block (ai.loop (λm st=>∃k2:Nat,∃cs:List SV,k2<=ls.length/\m=ls.length-k2/\(((ls.take k2).flatten.length<=cs.length/\cs.take (ls.take k2).flatten.length=(ls.take k2).flatten.flatMap (az ak))/\(cs.map (bf 0)=cs/\((ls.take k2).flatten≠[]->cs.length=(ls.take k2).flatten.length)))/\st=⟨[(6,.buf 0 (ls.take k2).flatten.length 1 none),(25,an 1 ls gW),(26,aa ls.length),(27,aa k2)],36,[.cells cs],[]⟩) ls.length (Fg.less (by (simp only[bx,aX,cw,↓reduceIte,reduceEqDiff,an,take_zero,flatten_nil,length_nil])<;>(repeat' apply And.intro)<;>first | rfl | trivial) (by (simp only[bx,aX,or_true,true_or,an,take_zero,flatten_nil,length_nil])<;>(repeat' apply And.intro)<;>first | exact .inr rfl | exact .inl rfl | trivial)) ⟨0,((replicate ls.flatten.length []).flatMap (az ak)),zero_le _,rfl,(by exact⟨⟨zero_le _,rfl⟩,nD _ _,λh=>absurd rfl h⟩),rfl⟩ (by rintro m st ⟨k2,_,_,_,_,rfl⟩;rfl) ?_);rintro m st ⟨k2,cs,hk2,rfl,hall2,rfl⟩;refine zs ?_;refine ai.r0 (by rfl) zl ?_;by_cases hlt2:k2<ls.length;rotate_left;obtain rfl:k2=ls.length:=(by omega);rw[show decide ((ls.length:Int)<(ls.length:Int))=false by simp];rotate_left;rw[show decide ((k2:Int)<(ls.length:Int))=true by simp only[decide_eq_true_eq];omega];obtain⟨x2,hx2⟩:∃zz,ls[k2]?=some zz:=⟨ls[k2],getElem?_eq_getElem hlt2⟩;rotate_left
 ·rw[htk] at hall2 ⊢;obtain⟨⟨g1,g2⟩,g3,g4⟩:=hall2
  have g5:cs=ls.flatten.flatMap (az ak):=by
   rw[<-g2,<-g4 h0,List.take_length]
  refine zN ?_;refine ai.exit ?_;refine zV ?_;refine zE ?_;exact zP [.tmp 2] (hq:=by (try simp only[aC,ab]);first | done | (rw[oC,MK,if_neg h0,if_neg h0,g5];exact⟨rfl,rfl⟩))
 refine zY ?_;obtain⟨⟨g1,g2⟩,g3,g4⟩:=hall2;have h1:=AB ls hx2;have h2:=uX ls (k2+1);have h2':=h2;rw[h1,length_append] at h2
 (repeat refine ai.seq ?_)
 refine ai.block ?_;refine aE (n3 hlt2 (aH (e:=1) (enc:=gW) (λ_=>rfl) hx2) @gW.eq_1) ?_;by_cases hx0:x2=[]
 ·subst hx0;rw[append_nil] at h1;refine aE (n2 @length_nil.{0} (show(ls.take k2).flatten.length<=1000000 by omega)) ?_;refine zs ?_;refine ai.r0 (by rfl) (gY (nh (dX hlt2 hlen (by decide)))) ?_;refine⟨ls.length-(k2+1),_,by omega,(Fg.less (nM h1) (nN h1)),k2+1,cs,by omega,rfl,(by rw[h1];exact⟨⟨g1,g2⟩,g3,g4⟩),rfl⟩
 have hx0':¬x2.length=0:=λe=>hx0 (List.length_eq_zero_iff.1 e)
 have g6:(cs.take ((ls.take k2).flatten.length*1)++x2.flatMap (az ak)).map (bf 0)=(ls.take (k2+1)).flatten.flatMap (az ak):=by
  rw[mul_one,g2,h1,<-List.flatMap_append,nD]
 refine aE (n6 hx0' (show x2.length<=1000000 by omega) @xZ (show(ls.take k2).flatten.length<=1000000 by omega) (show(ls.take k2).flatten.length*1<=cs.length by omega) g6) ?_;refine zs ?_;refine ai.r0 (by rfl) (gY (nh (dX hlt2 hlen (by decide)))) ?_;refine⟨ls.length-(k2+1),_,by omega,(Fg.less (nM (n2 h1 @length_append.{0})) (nN (n2 h1 @length_append.{0}))),k2+1,((ls.take (k2+1)).flatten.flatMap (az ak)),by omega,rfl,(by refine⟨⟨?_,?_⟩,nD _ _,λ_=>ly _⟩;(rw[ly];exact le_refl _);(rw[take_of_length_le (by rw[ly];exact le_refl _)])),rfl⟩
open Go.Ev Go.RowKit
structure Wy where
 kind:List Nat
 cK:List Nat
 days:Int
 km:Int
 uz:Int
structure Pt where
 name:List Nat
 kind:List Nat
 bD:List Nat
 slot:List Nat
 made:Int
 since:Int
 RN:Bool
 props:AV
 RL:Int
 Rn:Int
 RI:Int
 RH:Int
 RK:Int
 RJ:Int
structure Co where
 part:List Nat
 owner:List Nat
 day:Int
 am:Int
def GQ(n:Int):Bool:=decide (0<=n)&&decide (n<=40000)
theorem No{P:Program}{t:TypeId}{a b:Int}(hb:b≠0)(h : -9223372036854775808<=a.tdiv b/\a.tdiv b<=9223372036854775807):cM P .quo t (.int .i64 a) (.int .i64 b)=some (.int .i64 (a.tdiv b)):=by
 have h1:(qP (-9223372036854775808) (a.tdiv b)&&qP (a.tdiv b) 9223372036854775807)=true:=by
  rw[eE,eE];simp[h.1,h.2]
 have hz:LM b=false:=by
  unfold LM
  cases b with
  | ofNat n=>
   cases n with
   | zero=>exact absurd rfl hb
   | succ n=>rfl
  | negSucc n=>rfl
 simp only[cM,xF,ah,hz,ao,dH,LX,LJ,h1]
theorem Ik{P:Program}{t:TypeId}{a b:Int}(hb:b≠0):cM P .rem t (.int .i64 a) (.int .i64 b)=some (.int .i64 (a.tmod b)):=by
 have hz:LM b=false:=by
  unfold LM
  cases b with
  | ofNat n=>
   cases n with
   | zero=>exact absurd rfl hb
   | succ n=>rfl
  | negSucc n=>rfl
 simp only[cM,xF,ah,hz,ao]
def oT(a p:Int):Int:=if 100<2*(a*p%100)\/(2*(a*p%100)=100/\a*p/100%2≠0) then a*p/100+1 else a*p/100
def OM(a p:Int):Bool:=B0 a&&(decide (0<=p)&&decide (p<=100))
theorem IL{a p:Int}(ha:0<=a/\a<=1000000000000)(hp:0<=p/\p<=100):0<=a*p/\a*p<=100000000000000:=by
 refine⟨Int.mul_nonneg ha.1 hp.1,?_⟩;have h1:a*p<=1000000000000*p:=Int.mul_le_mul_of_nonneg_right ha.2 hp.1;omega
theorem I3{a p:Int}(ha:0<=a/\a<=1000000000000)(hp:0<=p/\p<=100):0<=oT a p/\oT a p<=a:=by
 obtain⟨h1,h2⟩:=IL ha hp;have h3:a*p<=a*100:=Int.mul_le_mul_of_nonneg_left hp.2 ha.1;unfold oT;generalize a*p=m at *;split<;>omega
def oV(k:List Nat):List AV:=[.str k]
theorem yd(ks:List (List Nat)):∀r∈ks.map oV,r.length=1:=by intro r hr;obtain⟨t,_,rfl⟩:=List.mem_map.1 hr;rfl
def Wy.ok(w:Wy):Bool:=cO w.kind&&(cO w.cK&&(GQ w.days&&(B0 w.km&&(decide (0<=w.uz)&&decide (w.uz<=100)))))
def Co.ok(c:Co):Bool:=cO c.part&&(cO c.owner&&(GQ c.day&&B0 c.am))
structure Wy.fits (w:Wy):Prop where
 k:w.kind.length<=1000000
 kb:∀b∈w.kind,b<256
 m:w.cK.length<=1000000
 mb:∀b∈w.cK,b<256
structure Co.fits (c:Co):Prop where
 p:c.part.length<=1000000
 pb:∀b∈c.part,b<256
 o:c.owner.length<=1000000
 ob:∀b∈c.owner,b<256
def ej(ws:List Wy)(c:Co):Bool:=ws.all Wy.ok&&c.ok
def ke(day fr:Int):Int:=if day<=fr then 0 else day-(if day-1000000000000<=fr then fr else day-1000000000000)
def lh(p:Pt)(c:Co)(w:Wy):Bool:=decide (w.kind=p.kind)&&(decide (ke c.day p.made<=w.days)&&decide (p.Rn<=w.km))
def nT(ws:List Wy)(po:Option Pt)(c:Co):List (List Nat×Int):=match po with
 | none=>[(c.owner,c.am)]
 | some p=>match ws.find? (lh p c) with
  | none=>[(c.owner,c.am)]
  | some w=>dk w.cK (getM 0 w.cK (dk c.owner (c.am-oT c.am w.uz) [(c.owner,c.am)])+oT c.am w.uz) (dk c.owner (c.am-oT c.am w.uz) [(c.owner,c.am)])
theorem A6{w:Wy}{c:Co}(hw:w.ok=true)(hc:c.ok=true):OM c.am w.uz=true/\(0<=c.am/\c.am<=1000000000000)/\(0<=w.uz/\w.uz<=100):=by
 unfold Wy.ok at hw;unfold Co.ok at hc;simp only[Bool.and_eq_true,B0,decide_eq_true_eq] at hw hc;unfold OM B0;simp only[Bool.and_eq_true,decide_eq_true_eq];omega
def tb(ml:List (List Nat×Int))(ks:List (List Nat)):List Sh:=(ks.filter λk=>decide (0<getM 0 k ml)).map λk=>⟨k,getM 0 k ml⟩
def p8(ks:List (List Nat)):Prop:=ks.Pairwise λa b=>gk b a=false
structure jO (ml:List (List Nat×Int)) (ss:List Sh):Prop where
 ex:∃ks:List (List Nat),ks.Perm (ml.map (·.1))/\p8 ks/\ss=tb ml ks
theorem MS(ml:List (List Nat×Int))(ks:List (List Nat))(k:List Nat):tb ml (ks++[k])=if 0<getM 0 k ml then tb ml ks++[⟨k,getM 0 k ml⟩] else tb ml ks:=by
 unfold tb;rw[List.filter_append];by_cases h:0<getM 0 k ml<;>simp[h]
theorem Cu(ml:List (List Nat×Int))(ks:List (List Nat)):(tb ml ks).length<=ks.length:=by
 unfold tb;rw[length_map];exact List.length_filter_le _ _
open Go.Shelf
def vU:Go.Shelf.Ren:=⟨λ| 6=>91 | 8=>132 | 9=>131 | 19=>175 | 20=>176 | 21=>166 | 22=>167 | 23=>168 | 24=>169 | 25=>170 | 26=>171 | 27=>172 | 28=>173 | 29=>174 | 36=>190 | 31=>191 | 32=>192 | 37=>193 | 38=>194 | 39=>157 | 41=>205 | n=>n,λ| 27=>48 | 29=>9 | 3=>3 | 32=>222 | 26=>48 | 0=>0 | 44=>265 | 46=>267 | 4=>4 | 36=>258 | 35=>257 | 41=>95 | 5=>5 | 9=>9 | 53=>276 | 57=>280 | 63=>289 | 64=>290 | n=>n,λ| n=>n⟩
theorem vA:Go.Proofs.SlLaysM.n6 Tryz.prog vU:={
 mixed:=by kernel_rfl
 f6:=⟨Tryz.f91.name,by decide,Tryz.func91.trans (congrArg some (by kernel_rfl))⟩
 f8:=Tryz.func132.trans (congrArg some (by kernel_rfl))
 f9:=⟨Tryz.f131.name,by decide,Tryz.func131.trans (congrArg some (by kernel_rfl))⟩
 f19:=Tryz.func175.trans (congrArg some (by kernel_rfl))
 f20:=Tryz.func176.trans (congrArg some (by kernel_rfl))
 f21:=⟨Tryz.f166.name,by decide,Tryz.func166.trans (congrArg some (by kernel_rfl))⟩
 f22:=⟨Tryz.f167.name,by decide,Tryz.func167.trans (congrArg some (by kernel_rfl))⟩
 f23:=⟨Tryz.f168.name,by decide,Tryz.func168.trans (congrArg some (by kernel_rfl))⟩
 f24:=⟨Tryz.f169.name,by decide,Tryz.func169.trans (congrArg some (by kernel_rfl))⟩
 f25:=⟨Tryz.f170.name,by decide,Tryz.func170.trans (congrArg some (by kernel_rfl))⟩
 f26:=⟨Tryz.f171.name,by decide,Tryz.func171.trans (congrArg some (by kernel_rfl))⟩
 f27:=⟨Tryz.f172.name,by decide,Tryz.func172.trans (congrArg some (by kernel_rfl))⟩
 f28:=⟨Tryz.f173.name,by decide,Tryz.func173.trans (congrArg some (by kernel_rfl))⟩
 f29:=⟨Tryz.f174.name,by decide,Tryz.func174.trans (congrArg some (by kernel_rfl))⟩
 f31:=Tryz.func191.trans (congrArg some (by kernel_rfl))
 f32:=Tryz.func192.trans (congrArg some (by kernel_rfl))
 f36:=⟨Tryz.f190.name,by decide,Tryz.func190.trans (congrArg some (by kernel_rfl))⟩
 f37:=⟨Tryz.f193.name,by decide,Tryz.func193.trans (congrArg some (by kernel_rfl))⟩
 f38:=⟨Tryz.f194.name,by decide,Tryz.func194.trans (congrArg some (by kernel_rfl))⟩
 f39:=⟨Tryz.f157.name,by decide,Tryz.func157.trans (congrArg some (by kernel_rfl))⟩
 f41:=⟨Tryz.f205.name,by decide,Tryz.func205.trans (congrArg some (by kernel_rfl))⟩
 t0:=Tryz.underlying0
 a0:=Tryz.isAgg0
 z0:=Tryz.sizeOf0
 v0:=Tryz.zeroValue0
 t3:=Tryz.underlying3
 a3:=Tryz.isAgg3
 z3:=Tryz.sizeOf3
 v3:=Tryz.zeroValue3
 t4:=Tryz.underlying4
 a4:=Tryz.isAgg4
 z4:=Tryz.sizeOf4
 v4:=Tryz.zeroValue4
 t5:=Tryz.underlying5
 a5:=Tryz.isAgg5
 z5:=Tryz.sizeOf5
 v5:=Tryz.zeroValue5
 t9:=Tryz.underlying9
 a9:=Tryz.isAgg9
 z9:=Tryz.sizeOf9
 v9:=Tryz.zeroValue9
 t26:=Tryz.underlying48
 a26:=Tryz.isAgg48
 z26:=Tryz.sizeOf48
 v26:=Tryz.zeroValue48
 t27:=Tryz.underlying48
 a27:=Tryz.isAgg48
 z27:=Tryz.sizeOf48
 v27:=Tryz.zeroValue48
 t29:=Tryz.underlying9
 a29:=Tryz.isAgg9
 z29:=Tryz.sizeOf9
 v29:=Tryz.zeroValue9
 t32:=Tryz.underlying222
 a32:=Tryz.isAgg222
 z32:=Tryz.sizeOf222
 v32:=Tryz.zeroValue222
 t35:=Tryz.underlying257
 a35:=Tryz.isAgg257
 z35:=Tryz.sizeOf257
 v35:=Tryz.zeroValue257
 t36:=Tryz.underlying258
 a36:=Tryz.isAgg258
 z36:=Tryz.sizeOf258
 v36:=Tryz.zeroValue258
 t41:=Tryz.underlying95
 a41:=Tryz.isAgg95
 z41:=Tryz.sizeOf95
 v41:=Tryz.zeroValue95
 t44:=Tryz.underlying265
 a44:=Tryz.isAgg265
 z44:=Tryz.sizeOf265
 v44:=Tryz.zeroValue265
 t46:=Tryz.underlying267
 a46:=Tryz.isAgg267
 z46:=Tryz.sizeOf267
 v46:=Tryz.zeroValue267
 t53:=Tryz.underlying276
 a53:=Tryz.isAgg276
 z53:=Tryz.sizeOf276
 v53:=Tryz.zeroValue276
 t57:=Tryz.underlying280
 a57:=Tryz.isAgg280
 z57:=Tryz.sizeOf280
 v57:=Tryz.zeroValue280
 t63:=Tryz.underlying289
 a63:=Tryz.isAgg289
 z63:=Tryz.sizeOf289
 v63:=Tryz.zeroValue289
 t64:=Tryz.underlying290
 a64:=Tryz.isAgg290
 z64:=Tryz.sizeOf290
 v64:=Tryz.zeroValue290 }
open Go.Ev Go.RowKit Go.Shelf Go.Lib Go.Sort
theorem B5(x y:List UInt8):decide (x<=y)=!gk (y.map (·.toNat)) (x.map (·.toNat)):=by
 rw[qm,bytesLess_eq];by_cases h:y<x
 ·have:¬x<=y:=λh2=>h2 h;simp[h,this]
 ·have:x<=y:=h;simp[h,this]
def Rp:Option Value->ByteArray
 | some (.string s)=>s
 | _=>ByteArray.empty
def Gj(ss:List (List UInt8)):List (List Nat):=ss.map λs=>s.map (·.toNat)
set_option maxHeartbeats 1000000 in
theorem vz(ks:List (List Nat))(v:AV)(Z:Nat)(h:Ev.H)(hout:KX Z h v 1 (ks.map oV))(hlen:ks.length<=1000000):
 dT Tryz.prog (.func 91) [v] h (λr h'=>r=.bI []/\∃ks':List (List Nat),ks'.Perm ks/\p8 ks'/\KX Z h' v 1 (ks'.map oV)/\Over Z h h'/\∀id n e c,v=.slice (some (id,0)) n e c->h.store id 0 (ks'.map oV).flatten=some h'):=by
 intro σ w args' hv hr;obtain⟨x,rfl,hx⟩:=OF hv;rw[ff dP Tryz.func91 (by rfl)]
 rcases hout.2 with⟨e,e2⟩ | ⟨id,bZ,fx,fy,hne,e2,ho,hfx,hxy,z1,z2,z3,z4,l1,l2,l3,l4⟩
 ·subst e2
  have hts:ks=[]:=by simpa using e
  subst hts
  cases hx with
  | ic hl=>
   refine Calls.mono (AnyM.slices_Sort_string_none vA none 0 w) λe w' ⟨he,hw⟩=>?_;subst hw;exact⟨_,he,.bI [],h,⟨rfl,[],.refl _,List.Pairwise.nil,hout,Over.refl _ _,λ_ _ _ _ he=>by cases he⟩,σ,V.kh,hr,.refl _ _ _⟩
 ·subst e2
  have hpos:0<ks.length:=by
   cases ks with
   | nil=>exact absurd rfl hne
   | cons=>exact Nat.succ_pos _
  rw[length_map] at hx
  cases hx with
  | @slice _ _ _ _ _ a p c hs hl hrr hcc ha=>
  have ha:a=⟨p.b,p.d+0,none⟩:=ha.resolve_right (by omega);subst ha;obtain⟨q,carr,et,hq,hb,hsz,hlen',hVc⟩:=hr.cells ho;rw[hs] at hq;cases hq
  have hfl:(ks.map oV).flatten.length=ks.length*1:=by
   have:=pk (s:=1) hout.1;rw[length_map] at this;exact this
  have hpl:=hr.lt ho hs
  let d:List (List UInt8):=(range ks.length).map λi=>(Rp carr[p.d+i]?).data.toList
  have hdl0:d.length=ks.length:=by simp[d]
  have hspec:∀i,i<ks.length->∃s:ByteArray,carr[p.d+i]?=some (.string s)/\ks[i]?=some (s.data.toList.map (·.toNat))/\d[i]?=some s.data.toList:=λi hi=>by
   have hki:ks[i]?=some ks[i]:=getElem?_eq_getElem hi
   have hg:(ks.map oV)[i]?=some (oV ks[i]):=by rw[getElem?_map,hki];rfl
   have h0:=BT hout.1 hg (k:=0) (by omega);obtain⟨v0,g0,V0⟩:=hVc _ _ (h0.trans (show(oV ks[i])[0]?=some (.str ks[i]) from rfl));rw[mul_one,add_zero] at g0;generalize hkk:ks[i]=kk at V0
   cases V0 with
   | @str _ s0 e0=>
    refine⟨s0,g0,by rw[hki,hkk,e0],?_⟩;show((range ks.length).map _)[i]?=_;rw[getElem?_map,List.getElem?_range hi,map_some,g0];rfl
  have hH:Holds encStr w p.b (p.d+0) d.toArray:=by
   intro j hj
   have hj':j<ks.length:=by simpa [hdl0] using hj
   obtain⟨s,g1,g2,g3⟩:=hspec j hj';refine⟨?_,AI hb⟩;rw[cell_of hb,add_zero,g1];rw[getElem!_pos d.toArray j hj]
   have:d.toArray[j]=s.data.toList:=by
    have h1:=getElem?_eq_getElem (l:=d) (i:=j) (by omega);rw[g3] at h1;simpa using(Option.some.inj h1).symm
   rw[this]
  have hmain:=AnyM.slices_Sort_string vA p.b (p.d+0) c d w hH hpl (by rw[hdl0];omega);rw[hdl0] at hmain;change Calls Tryz.prog 91 _ _ _ at hmain;refine Calls.mono hmain ?_;rintro e w' ⟨rfl,n,os,rfl⟩;obtain⟨d',hd'⟩:∃d',d'=d.mergeSort λx y=>decide (x<=y):=⟨_,rfl⟩;rw[<-hd']
  have hp3:d'.Perm d:=by rw[hd'];exact List.mergeSort_perm _ _
  have hp1:d'.length=ks.length:=by rw[hp3.length_eq,hdl0]
  have hsorted:d'.Pairwise λx y=>decide (x<=y)=true:=by
   rw[hd'];refine List.pairwise_mergeSort ?_ ?_ d
   ·intro a b c h1 h2;rw[B5] at *;simp only[not_eq_true'] at *;cases h:gk (c.map (·.toNat)) (a.map (·.toNat))
    ·rfl
    ·rcases oq (a.map (·.toNat)) (b.map (·.toNat)) with g | g | g
     ·have:=lI h g;rw[h2] at this;cases this
     ·rw[g,h2] at h;cases h
     ·rw[h1] at g;cases g
   ·intro a b;rw[B5,B5]
    rcases oq (a.map (·.toNat)) (b.map (·.toNat)) with g | g | g
    ·rw[ql g];rfl
    ·rw[g,om];rfl
    ·rw[ql g];simp
  have hdl:Gj d=ks:=by
   apply List.ext_getElem?;intro i;unfold Gj;by_cases hi:i<ks.length
   ·obtain⟨s,g1,g2,g3⟩:=hspec i hi;rw[getElem?_map,g3,g2];rfl
   ·rw[List.getElem?_eq_none (by simp[hdl0];omega),List.getElem?_eq_none (by omega)]
  have hperm:(Gj d').Perm ks:=by rw[<-hdl];exact hp3.map _
  have hsx:p8 (Gj d'):=by
   unfold p8 Gj;rw[List.pairwise_map];refine hsorted.imp ?_;intro a b h1;rw[B5] at h1;simpa using h1
  have hlen2:(Gj d').length=ks.length:=by unfold Gj;rw[length_map,hp1]
  have hw3:=yd (Gj d')
  have hb1:(putRow encStr (Sort.ahead w n) p.b (p.d+0) d'.toArray).heap[p.b]?=some (.cells (putCells encStr (p.d+0) d'.toArray carr) et (0,0)):=by
   unfold putRow mapBlock;simp only[Array.getElem?_modify,if_true];rw[show(Sort.ahead w n).heap[p.b]?=some (.cells carr et (0,0)) from hb];rfl
  have hoth:∀b,b≠p.b->(putRow encStr (Sort.ahead w n) p.b (p.d+0) d'.toArray).heap[b]?=w.heap[b]?:=λb hbb=>by
   unfold putRow mapBlock;simp only[Array.getElem?_modify];rw[if_neg (λe=>hbb e.symm)];rfl
  have hVn:∀(i:Nat) (a:AV),((Gj d').map oV).flatten[i]?=some a->∃v,(putCells encStr (p.d+0) d'.toArray carr)[p.d+i]?=some v/\V σ a v:=by
   intro i a hia
   have hil:i<ks.length:=by
    have:=Pd hia;rw[pk hw3,length_map,hlen2] at this;omega
   have hj:i<d'.length:=by omega
   have hrow:((Gj d').map oV)[i]?=some (oV (d'[i].map (·.toNat))):=by
    unfold Gj;rw[getElem?_map,getElem?_map,getElem?_eq_getElem hj];rfl
   have hat:=BT hw3 hrow (k:=0) (by omega);rw[mul_one,add_zero,hia] at hat
   have hcl:p.d+i<carr.size:=by omega
   have hput:(putCells encStr (p.d+0) d'.toArray carr)[p.d+i]?=some (encStr d'[i]):=by
    unfold putCells;rw[Array.getElem?_mapIdx,Array.getElem?_eq_getElem hcl,map_some,if_pos ⟨by omega,by simp;omega⟩];rw[show p.d+i-(p.d+0)=i by omega,getElem!_pos d'.toArray i (by simpa using hj)];simp
   refine⟨_,hput,?_⟩;cases hat;exact .str rfl
  obtain⟨r1,r2⟩:=hr.rewrite ho hs (cs':=((Gj d').map oV).flatten) (by rw[pk hw3,length_map,hlen2,hfl]) hb hb1 (by unfold putCells;rw[Array.size_mapIdx]) hVn hoth (by unfold putRow mapBlock;simp[Sort.ahead]) rfl rfl rfl
  have hbel:Below (putRow encStr (Sort.ahead w n) p.b (p.d+0) d'.toArray).heap.size (putRow encStr (Sort.ahead w n) p.b (p.d+0) d'.toArray) (grow (putRow encStr (Sort.ahead w n) p.b (p.d+0) d'.toArray) os):=
   ⟨rfl,rfl,rfl,by rw[size_grow];omega,λk hk=>by unfold grow;simp only;rw[Array.getElem?_append_left hk]⟩
  have hkeep:=wK r1 hbel;obtain⟨ao1,ao2⟩:=qW (id:=id) hfx z2 z3 z4
  have hne':(Gj d').map oV≠[]:=by
   intro e;have:=congrArg List.length e;rw[length_map,hlen2] at this;simp at this;rw[this] at hpos;simp at hpos
  refine⟨_,rfl,.bI [],_,⟨rfl,Gj d',hperm,hsx,⟨hw3,.inr ⟨id,bZ,id,id,hne',?_,?_,?_,.inl rfl,z1,z1,z1,z4,?_,?_,?_,?_⟩⟩,?_,?_⟩,σ,V.kh,hkeep.1,r2.trans hkeep.2⟩
  ·rw[length_map,length_map,hlen2]
  ·exact cR _ _ _
  ·exact Ai hfx
  ·show id<(h.alone id bZ).next;rw[ao2];exact l1
  ·show id<(h.alone id bZ).next;rw[ao2];exact l1
  ·show id<(h.alone id bZ).next;rw[ao2];exact l1
  ·show bZ<(h.alone id bZ).next;rw[ao2];exact l4
  ·refine ao1.trans ⟨le_refl _,λj hj=>bj _ _ (by omega),λ_ _=>rfl,λhl=>qo (by omega)⟩
  ·intro id2 n2 e2 c2 he;cases he
   have hfl2:((Gj d').map oV).flatten.length=(ks.map oV).flatten.length:=by rw[pk hw3,length_map,hlen2,hfl]
   have hone:((Gj d').map oV).flatten.all j7=true:=by
    rw[List.all_eq_true];intro x hx;rw[List.mem_flatten] at hx;obtain⟨r,hr1,hr2⟩:=hx;obtain⟨k,_,rfl⟩:=mem_map.1 hr1;rw[List.mem_singleton.1 hr2];rfl
   unfold H.store;rw[ho];simp only;rw[hfl2,Nat.zero_add,ek (le_refl _),hone,Bool.and_self,ah,take_zero,List.nil_append,List.drop_of_length_le (le_refl _),append_nil]
def xJ(a b:List Nat):Bool:=!gk b a
theorem J4(a b c:List Nat)(h1:xJ a b=true)(h2:xJ b c=true):xJ a c=true:=by
 unfold xJ at *;simp only[not_eq_true'] at *;cases h:gk c a
 ·rfl
 ·rcases oq a b with g | g | g
  ·have:=lI h g;rw[h2] at this;cases this
  ·rw[g,h2] at h;cases h
  ·rw[h1] at g;cases g
theorem J3(a b:List Nat):(xJ a b||xJ b a)=true:=by
 unfold xJ
 rcases oq a b with g | g | g
 ·rw[ql g];rfl
 ·rw[g,om];rfl
 ·rw[ql g];simp
theorem Ed{a b:List Nat}(h1:xJ a b=true)(h2:xJ b a=true):a=b:=by
 unfold xJ at h1 h2;simp only[not_eq_true'] at h1 h2
 rcases oq a b with g | g | g
 ·rw[h2] at g;cases g
 ·exact g
 ·rw[h1] at g;cases g
def J1(x:List Nat):List (List Nat)->List (List Nat)
 | []=>[x]
 | y::l=>cond (xJ x y) (x::y::l) (y::J1 x l)
def dG:List (List Nat)->List (List Nat)
 | []=>[]
 | x::l=>J1 x (dG l)
theorem Pe(x:List Nat):∀l,(J1 x l).Perm (x::l)
 | []=>.refl _
 | y::l=>by
  rw[J1];cases xJ x y
  ·exact((Pe x l).cons y).trans (.swap x y l)
  ·exact .refl _
theorem pR:∀l,(dG l).Perm l
 | []=>.refl _
 | x::l=>(Pe x _).trans ((pR l).cons x)
theorem P3(x:List Nat):∀l,l.Pairwise (λa b=>xJ a b=true)->(J1 x l).Pairwise λa b=>xJ a b=true
 | [],_=>List.pairwise_singleton ..
 | y::l,h=>by
  obtain⟨h1,h2⟩:=List.pairwise_cons.1 h;rw[J1];cases g:xJ x y
  ·refine List.pairwise_cons.2 ⟨λz hz=>?_,P3 x l h2⟩
   rcases List.mem_cons.1 ((Pe x l).mem_iff.1 hz) with rfl | hz
   ·have:=J3 z y;rw[g] at this;simpa using this
   ·exact h1 z hz
  ·refine List.pairwise_cons.2 ⟨λz hz=>?_,h⟩
   rcases List.mem_cons.1 hz with rfl | hz
   ·exact g
   ·exact J4 _ _ _ g (h1 z hz)
theorem Fb:∀l,(dG l).Pairwise λa b=>xJ a b=true
 | []=>.nil
 | x::l=>P3 x _ (Fb l)
theorem Hk{l ks:List (List Nat)}(hp:ks.Perm l)(hs:p8 ks):ks=dG l:=by
 have h2:(dG l).Pairwise λa b=>xJ a b=true:=Fb l
 have h1:ks.Pairwise λa b=>xJ a b=true:=by
  unfold p8 at hs;refine hs.imp ?_;intro a b h;unfold xJ;rw[h];rfl
 have hq:ks.Perm (dG l):=hp.trans (pR l).symm;exact List.Perm.eq_of_pairwise (λa b _ _ h1 h2=>Ed h1 h2) h1 h2 hq
theorem Jj(l:List (List Nat)):(l.map oV).flatten=l.map AV.str:=by
 induction l with
 | nil=>rfl
 | cons a l ih=>rw[List.map_cons,List.flatten_cons,ih];rfl
theorem xo:∀l:List (List Nat),jL (l.flatMap (az ak))=some (l.map AV.str)
 | []=>rfl
 | a::l=>by
  show jL (ak a::l.flatMap (az ak))=_;rw[jL,cH,bind_some,xo l];rfl
theorem rE(l:List (List Nat))(hlen:l.length<=1000000)(hne:l≠[]):SC Tryz.prog 91 [.buf 0 l.length 1 none] [.cells (l.flatMap (az ak))] [] (λr S'=>r=.bI []/\S'=[.cells ((dG l).flatMap (az ak))]):=by
 have hl2:(dG l).length=l.length:=(pR l).length_eq;refine SC.row (by rw[ly,ly,hl2]) (λθ ρ xs hx=>np hx (xZ _)) ?_;intro E θ ρ h avs asx bZ hl hR hA ho hV ⟨⟨x,y⟩,hf,hxy,b1,b2,b3,b4⟩;have has:=pj hV (xo l);subst has;rw[aL] at hA;obtain⟨a,r,rfl,hA1,hA2⟩:=hA;rw[bg] at hA2;subst hA2;rw[VS] at hA1;subst hA1
 have hout:KX 0 h (.slice (some ((θ 0).id,0)) l.length 1 none) 1 (l.map oV):=by
  refine⟨yd l,.inr ⟨(θ 0).id,bZ,x,y,by simpa using hne,by rw[length_map],by rw[Jj];exact ho,hf,hxy,zero_le _,zero_le _,zero_le _,zero_le _,b4,b1,b2,b3⟩⟩
 refine(vz l _ 0 h hout hlen).mono ?_;rintro v h' ⟨rfl,ks',hp,hs,_,_,hst⟩;have:=Hk hp hs;subst this;refine⟨by rw[VS];exact⟨[],rfl,by rw[bg]⟩,_,?_,hst _ _ _ _ rfl⟩;rw[Jj];exact xn (xo _)
def eL(l:List (List Nat)):List (List Nat):=l.foldl (λacc x=>if acc.getLast?=some x then acc else acc++[x]) []
theorem q0(l:List (List Nat))(x:List Nat):eL (l++[x])=if (eL l).getLast?=some x then eL l else eL l++[x]:=by
 unfold eL;rw[List.foldl_append];rfl
theorem GB(l:List (List Nat))(x:List Nat):(eL (l++[x])).getLast?=some x:=by
 rw[q0];by_cases h:(eL l).getLast?=some x
 ·rw[if_pos h];exact h
 ·rw[if_neg h,List.getLast?_append];rfl
theorem bo{α:Type}{l:List α}{i:Nat}{x:α}(h:l[i]?=some x):l.take (i+1)=l.take i++[x]:=by
 rw[List.take_add_one,h];rfl
theorem w6{l:List (List Nat)}{i:Nat}{z y:List Nat}(hz:l[i]?=some z)(hy:l[i+1]?=some y):eL (l.take (i+1+1))=if z=y then eL (l.take (i+1)) else eL (l.take (i+1))++[y]:=by
 have h1:=GB (l.take i) z;rw[bo hy,q0,bo hz,h1];by_cases h:z=y
 ·rw[if_pos h,if_pos (by rw[h])]
 ·rw[if_neg h,if_neg (λe=>h (Option.some.inj e))]
theorem uI:∀{c:List (List Nat)} {i:Nat} {x:List Nat},c[i]?=some x->(c.flatMap (az ak))[i]?=some (ak x)
 | [],i,x,h=>by simp at h
 | a::c,0,x,h=>by
  simp only[List.getElem?_cons_zero,Option.some.injEq] at h;subst h;rfl
 | a::c,i+1,x,h=>by
  simp only[List.getElem?_cons_succ] at h;exact uI (c:=c) h
theorem tf:∀(c:List (List Nat)) (i:Nat),(c.flatMap (az ak)).take i=(c.take i).flatMap (az ak)
 | [],i=>by simp
 | a::c,0=>rfl
 | a::c,i+1=>by
  show(ak a::c.flatMap (az ak)).take (i+1)=_;rw[List.take_succ_cons,tf c i];rfl
theorem yk:∀(c:List (List Nat)) (i:Nat),(c.flatMap (az ak)).drop i=(c.drop i).flatMap (az ak)
 | [],i=>by simp
 | a::c,0=>rfl
 | a::c,i+1=>by
  show(ak a::c.flatMap (az ak)).drop (i+1)=_;rw[List.drop_succ_cons,yk c i];rfl
theorem MQ{α:Type}{c:List α}{i:Nat}(y:α)(h:i<c.length):c.set i y=c.take i++(y::c.drop (i+1)):=by
 rw[List.set_eq_take_append_cons_drop,if_pos h]
theorem Ot{c:List (List Nat)}{i:Nat}(y:List Nat)(h:i<c.length):(c.flatMap (az ak)).take i++(ak y::(c.flatMap (az ak)).drop (i+1))=(c.set i y).flatMap (az ak):=by
 rw[MQ y h,List.flatMap_append,tf,yk];rfl
theorem Me(n:Nat):(rep [AV.str []] n).all j7=true:=by
 induction n with
 | zero=>rfl
 | succ n ih=>rw[rep,List.all_append,ih];rfl
theorem zA(l:List (List Nat))(hlen:l.length<=1000000)(hne:l≠[]):SC Tryz.prog 147 [.buf 0 l.length 1 none] [.cells (l.flatMap (az ak))] [] (λr S'=>r=.buf 0 (eL l).length 1 none/\S'=[.cells ((eL l++replicate (l.length-(eL l).length) []).flatMap (az ak))]):=by
 have h0:0<l.length:=by
  cases l with
  | nil=>exact absurd rfl hne
  | cons a l=>exact Nat.succ_pos _
 refine Gk 61 Tryz.func147 ?_
 have fin:eL l=l->eL l++replicate (l.length-(eL l).length) []=l:=λh=>by rw[h,Nat.sub_self,List.replicate_zero,append_nil]
 obtain⟨x0,hx0⟩:∃x,l[0]?=some x:=⟨l[0],getElem?_eq_getElem h0⟩
 have ht1:eL (l.take 1)=l.take 1:=by
  rw[bo hx0,take_zero];rfl
 by_cases h2:l.length<2
 ·have hc:eL l=l:=by
   have:=ht1;rw[take_of_length_le (by omega)] at this;exact this
  refine zV ?_;refine aE (show decide ((l.length:Int)<2)=true by simp only[decide_eq_true_eq];omega) ?_;refine cE ?_;refine zE ?_;exact zP [.tmp 2] (hq:=by (try simp only[aC,ab]);first | done | (rw[fin hc,hc];exact⟨rfl,rfl⟩))
 refine zV ?_;refine aE (show decide ((l.length:Int)<2)=false by simp only[decide_eq_false_iff_not];omega) ?_;refine gX ?_
 (repeat refine ai.seq ?_)
 refine ai.block (ai.loop (λm st=>∃k:Nat,1<=k/\k<=l.length/\m=l.length-k/\eL (l.take k)=l.take k/\st=⟨[(0,.buf 0 l.length 1 none),(3,aa k),(1000000,.ptr 0 0)],61,[.cells (l.flatMap (az ak))],[]⟩) (l.length-1) zH ⟨1,by omega,by omega,rfl,ht1,rfl⟩ (by rintro m st ⟨k,_,_,_,_,rfl⟩;rfl) ?_);rintro m st ⟨k,hk1,hk,rfl,hall,rfl⟩;refine zV ?_;by_cases hlt:k<l.length;rotate_left
 ·rw[show decide ((k:Int)<(l.length:Int))=false by simp only[decide_eq_false_iff_not];omega];refine zN ?_;refine ai.exit ?_;refine zV ?_
  have hc:eL l=l:=by
   rw[take_of_length_le (by omega)] at hall;exact hall
  refine zE ?_;exact zP [.tmp 2] (hq:=by (try simp only[aC,ab]);first | done | (rw[fin hc,hc];exact⟨rfl,rfl⟩))
 rw[show decide ((k:Int)<(l.length:Int))=true by simp only[decide_eq_true_eq];omega];obtain⟨j,rfl⟩:∃j,k=j+1:=⟨k-1,by omega⟩;obtain⟨x,hx⟩:∃x,l[j]?=some x:=⟨l[j],getElem?_eq_getElem (by omega)⟩;obtain⟨y,hy⟩:∃y,l[j+1]?=some y:=⟨l[j+1],getElem?_eq_getElem hlt⟩
 have hj:j<l.length:=by omega
 refine zY ?_
 (repeat refine ai.seq ?_)
 refine ai.block ?_;refine zs ?_;refine oW [0,0,3,7,0,0,32,112,240,511] ?_;refine nL (n7 hlt @mul_one (uI hy) (KP (show -9223372036854775808<=((j+1:Nat):Int)-1/\((j+1:Nat):Int)-1<=9223372036854775807 from⟨by omega,by omega⟩)) (show((j+1:Nat):Int)-1=(j:Int) from by omega) hj (uI hx)) ?_;refine zM ?_;have hst:=w6 hx hy;cases g:decide (y=x)
 ·have g':¬x=y:=λe=>by rw[e] at g;simp at g
  refine zN ?_;refine aE (nh (show -9223372036854775808<=((j+1:Nat):Int)+1/\((j+1:Nat):Int)+1<=9223372036854775807 from⟨by omega,by omega⟩)) ?_;refine⟨l.length-(j+1+1),_,by omega,zH,j+1+1,by omega,by omega,rfl,?_,rfl⟩;rw[hst,if_neg g',hall,<-bo hy]
 have g':x=y:=by simpa using(of_decide_eq_true g).symm
 refine zY ?_
 have hc0:eL (l.take (j+1+1))=l.take (j+1):=by rw[hst,if_pos g',hall]
 refine aE (n2 (DA hk) @mul_one) ?_;refine zV ?_
 (repeat refine ai.seq ?_)
 refine ai.block (ai.loop (λm st=>∃(k2 k:Nat) (c:List (List Nat)),(1<=k2/\k2<=l.length-(j+1))/\(j+1<=k/\k<=j+k2)/\m=l.length-k2/\(c.length=l.length/\c.take k=eL (l.take (j+1+k2))/\c.drop k=l.drop k)/\st=⟨[(0,.buf 0 l.length 1 none),(3,aa k),(4,.sub 0 (j+1) (l.length-(j+1)) 1 none),(5,aa k2),(1000000,.ptr 0 0)],61,[.cells (c.flatMap (az ak))],[]⟩) (l.length-1) zH ⟨1,j+1,l,⟨by omega,by omega⟩,⟨by omega,by omega⟩,rfl,⟨rfl,hc0.symm,rfl⟩,rfl⟩ (by rintro m st ⟨k2,k,c,_,_,_,_,rfl⟩;rfl) ?_);rintro m st ⟨k2,k,c,⟨hk21,hk22⟩,⟨hkl,hku⟩,rfl,⟨hcl,hct,hcd⟩,rfl⟩;refine zV ?_;by_cases hlt2:k2<l.length-(j+1);rotate_left
 ·rw[show decide ((k2:Int)<((l.length-(j+1):Nat):Int))=false by simp only[decide_eq_false_iff_not];omega];refine zN ?_;refine ai.exit ?_
  have hkn:k<=l.length:=by omega
  have hcN:eL l=c.take k:=by
   rw[hct,take_of_length_le (by omega)]
  have hlN:(eL l).length=k:=by rw[hcN,List.length_take];omega
  have hrest:(c.flatMap (az ak)).take k++((rep [AV.str []] (l.length-k)).map SV.a++(c.flatMap (az ak)).drop (k+(l.length-k)))=(eL l++replicate (l.length-(eL l).length) []).flatMap (az ak):=by
   rw[hlN,BB,tf,yk,List.drop_of_length_le (by omega),List.flatMap_append,<-hcN];simp
  by_cases hz:l.length-k=0
  ·have hk3:k=l.length:=by omega
   refine zs ?_;refine ai.r0 (by rfl) (by simp only[bx,aX,an,aw,bind_some,map_some,↓reduceIte,reduceEqDiff,reduceAdd,reduceMul,reduceLeDiff,reduceLT,ah,ao,aP,tN hkn,mul_one,hz];first | done | rfl) ?_;refine aE (n2 (Q6 hkn) @Nat.sub_zero) ?_;refine zE ?_;exact zP [.tmp 2] (hq:=by (try simp only[aC,ab]);first | done | (rw[hlN];refine⟨rfl,?_⟩;rw[hz,List.replicate_zero,append_nil,hcN,hk3,take_of_length_le (by omega)]))
  ·refine zs ?_;refine ai.r0 (by rfl) (by simp only[bx,aX,an,aw,bind_some,map_some,↓reduceIte,reduceEqDiff,reduceAdd,reduceMul,reduceLeDiff,reduceLT,ah,ao,aP,tN hkn,mul_one,hz,Me,ly,hcl,show k+(l.length-k)<=l.length by omega,hrest];first | done | rfl) ?_;refine aE (n2 (Q6 hkn) @Nat.sub_zero) ?_;refine zE ?_;exact zP [.tmp 2] (hq:=by (try simp only[aC,ab]);first | done | (rw[hlN];first | exact⟨rfl,rfl⟩ | exact⟨rfl,trivial⟩ | exact⟨trivial,trivial⟩))
 rw[show decide ((k2:Int)<((l.length-(j+1):Nat):Int))=true by simp only[decide_eq_true_eq];omega];obtain⟨i,rfl⟩:∃i,k2=i+1:=⟨k2-1,by omega⟩;obtain⟨u,hu⟩:∃u,l[j+1+i]?=some u:=⟨l[j+1+i],getElem?_eq_getElem (by omega)⟩;obtain⟨v,hv⟩:∃v,l[j+1+i+1]?=some v:=⟨l[j+1+i+1],getElem?_eq_getElem (by omega)⟩
 have hcu:c[j+1+i]?=some u:=by
  have:(c.drop k)[j+1+i-k]?=(l.drop k)[j+1+i-k]?:=by rw[hcd]
  rw[getElem?_drop,getElem?_drop,show k+(j+1+i-k)=j+1+i by omega] at this;rw[this,hu]
 have hcv:c[j+1+(i+1)]?=some v:=by
  have:(c.drop k)[j+1+i+1-k]?=(l.drop k)[j+1+i+1-k]?:=by rw[hcd]
  rw[getElem?_drop,getElem?_drop,show k+(j+1+i+1-k)=j+1+i+1 by omega] at this;rw[<-Nat.add_assoc,this,hv]
 have hi:i<l.length-(j+1):=by omega
 have hs2:=w6 hu hv;refine zY ?_
 (repeat refine ai.seq ?_)
 refine ai.block ?_;refine zs ?_;refine oW [0,0,3,7,0,0,32,112,240,511] ?_;refine nL (n7 hlt2 @mul_one (uI hcv) (KP (show -9223372036854775808<=((i+1:Nat):Int)-1/\((i+1:Nat):Int)-1<=9223372036854775807 from⟨by omega,by omega⟩)) (show((i+1:Nat):Int)-1=(i:Int) from by omega) hi (uI hcu)) ?_;refine zM ?_;cases g2:decide (v=u);rotate_left
 ·have g3:u=v:=(of_decide_eq_true g2).symm;refine zN ?_;refine aE (nh (show -9223372036854775808<=((i+1:Nat):Int)+1/\((i+1:Nat):Int)+1<=9223372036854775807 from⟨by omega,by omega⟩)) ?_;refine⟨l.length-(i+1+1),_,by omega,zH,i+1+1,k,c,⟨by omega,by omega⟩,⟨by omega,by omega⟩,rfl,⟨hcl,?_,hcd⟩,rfl⟩;rw[if_pos g3] at hs2;rw[show j+1+(i+1+1)=j+1+i+1+1 by omega,hs2,hct];rfl
 have g3:¬u=v:=λe=>by rw[e] at g2;simp at g2
 have hkn:k<l.length:=by omega
 have hkc:k<c.length:=by omega
 refine zY ?_;refine aE (n8 hlt2 @mul_one (uI hcv) hkn @ly hcl (show k+1<=l.length by omega) (Ot v hkc)) ?_;refine aE (nh (show -9223372036854775808<=(k:Int)+1/\(k:Int)+1<=9223372036854775807 from⟨by omega,by omega⟩)) ?_;refine aE (nh (show -9223372036854775808<=((i+1:Nat):Int)+1/\((i+1:Nat):Int)+1<=9223372036854775807 from⟨by omega,by omega⟩)) ?_;refine⟨l.length-(i+1+1),_,by omega,zH,i+1+1,k+1,c.set k v,⟨by omega,by omega⟩,⟨by omega,by omega⟩,rfl,⟨by rw[List.length_set,hcl],?_,?_⟩,rfl⟩
 ·rw[if_neg g3] at hs2;rw[show j+1+(i+1+1)=j+1+i+1+1 by omega,hs2,MQ v hkc,List.take_append,List.length_take,Nat.min_eq_left (by omega),show k+1-k=1 by omega,List.take_take,Nat.min_eq_right (by omega),hct];rfl
 ·rw[List.drop_set,if_pos (by omega)];have:=congrArg (List.drop 1) hcd;rw[List.drop_drop,List.drop_drop] at this;exact this
end Go.Proofs
