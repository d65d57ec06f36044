/- A part of the texts of this claim: every theorem says what it proves, with its conditions. -/
import Derived.Test.YtnaiockballhaaaGreatA43
import Derived.Test.YtnaiockballhaaaGreatA42
import Derived.Test.YtnaiockballhaaaGreatA40
import Derived.Test.YtnaiockballhaaaGreatA25
import Derived.Test.YtnaiockballhaaaGreatA23
set_option linter.unusedSimpArgs false
set_option linter.unusedVariables false
set_option linter.unusedSectionVars false
open Nat (le_refl)
open List (mem_cons not_mem_nil)
namespace Go.Proofs
open Go.Ev
set_option maxRecDepth 100000
def KS:Wy:=⟨[97,120,108,101],[70,111,114,103,101],100,50,80⟩
def KQ:Co:=⟨[97],[82,97,105,108],60,1001⟩
def dI(km:Int):aG:=⟨[97],[97,120,108,101],[],[],10,10,false,[],km,km,0,0,0,0⟩
def nZ(km:Int):bB:=⟨4,20,[99],[],[],[],[],[],km,km,0,0,0,0⟩
theorem Fv:PC Tryz.prog 13 [] (·=.bI [an 5 [KS] bN,.ag (gU KQ)]):=by
 refine pB 5 Tryz.func13 ?_;rw[bF];refine kQ ?_;refine zE ?_;exact zO [.tmp 0,.cell 1 33] (r:=.bI [.sl 1 5 (bN KS),.ag (gU KQ)]) (hw:=by exact .bI (.cons (.buf rfl (bn.refl rfl) (le_refl _)) (bn.refl rfl)))
theorem Bq(km:Int):PC Tryz.prog 14 [aa km] (·=.ag [an 14 [dI km] ae]):=by
 refine pB 10 Tryz.func14 ?_;refine kQ ?_;refine zE ?_;exact zO [.cell 2 55] (r:=.ag [.sl 1 14 (ae (dI km))]) (hw:=by exact .ag (.cons (.buf rfl (.cons (.a _) (.cons (.a _) (.cons (.a _) (.cons (.a _) (.cons (.a _) (.cons (.a _) (.cons (.a _) (.cons (.nil 2) (bn.refl rfl))))))))) (le_refl _)) .nil))
theorem vn(km:Int):PC Tryz.prog 15 [aa km] (·=.ag (aF (nZ km))):=by
 refine pB 8 Tryz.func15 ?_;refine kQ ?_;refine zE ?_;exact zO [.cell 2 76]
theorem mS(l:List bB):PC Tryz.prog 16 [an 14 l aF] (·=.ag (aD ⟨l,false⟩)):=by
 refine pB 5 Tryz.func16 ?_;refine kQ ?_;refine zE ?_;exact zO [.cell 2 44]
theorem Sh.eq(a b:Sh):hY gx [.str a.pt,.int .i64 a.am] [.str b.pt,.int .i64 b.am]=decide (a=b):=by
 obtain⟨a1,a2⟩:=a;obtain⟨b1,b2⟩:=b;simp only[hY,gx,xF,xe,mY,Bool.true_and,Bool.and_true,Sh.mk.injEq,Bool.decide_and]
theorem Nn{P:Program}{t:TypeId}{xs ys:List AV}{b:Bool}(h:cM P .eql t (.agg xs) (.agg ys)=some (.bool b)):cM P .neq t (.agg xs) (.agg ys)=some (.bool (!b)):=by
 change cond (P.eqGuardType P.depth t) none ((kR P 8 t (.agg xs) (.agg ys)).map AV.bool)=_ at h;show cond (P.eqGuardType P.depth t) none ((kR P 8 t (.agg xs) (.agg ys)).map λb=>AV.bool (!b))=_
 revert h
 cases P.eqGuardType P.depth t
 ·cases kR P 8 t (.agg xs) (.agg ys)
  ·intro h;cases h
  ·intro h;injection h with h;injection h with h;subst h;rfl
 ·intro h;cases h
theorem HO(a b:Sh):cM Tryz.prog .neq 61 (.agg [.str a.pt,.int .i64 a.am]) (.agg [.str b.pt,.int .i64 b.am])=some (.bool (!(decide (a=b)))):=
 Nn (Du (ks:=[.s,.i .i64]) (by kernel_rfl) (by kernel_rfl) (by simp only[aw,Option.map_some]) rfl rfl (Sh.eq a b))
theorem HW(a b:List Sh)(ha:a.length<=1000000):PC Tryz.prog 17 [an 2 a bC,an 2 b bC] (·=aA (decide (a=b))):=by
 refine pB 26 Tryz.func17 ?_;refine zV ?_;cases g:decide ((a.length:Int)=b.length)
 ·refine aE g ?_;refine cE ?_;refine zE ?_;exact zO [.tmp 4] (hq:=by (try simp only[aC,ab]);first | done | (rw[decide_eq_false (λh=>of_decide_eq_false g (by rw[h]))]))
 refine aE g ?_;refine gX ?_;have hl:a.length=b.length:=Int.ofNat.inj (of_decide_eq_true g);refine zs ?_;refine zL a (λk=>a.take k=b.take k) (λk=>[(0,an 2 a bC),(1,an 2 b bC),(5,aa k)]) (λk=>[]) zH zp ?_;intro k hk hall;by_cases hlt:k<a.length;rotate_left
 ·obtain rfl:k=a.length:=by omega
  rw[List.take_length,hl,List.take_length] at hall;refine aE (show decide ((a.length:Int)<(a.length:Int))=false by simp) ?_;refine zN ?_;refine ai.exit ?_;refine zV ?_;refine zE ?_;exact zO [.tmp 4] (hq:=by (try simp only[aC,ab]);first | done | (rw[decide_eq_true hall]))
 have hd:=show decide ((k:Int)<(a.length:Int))=true by simp only[decide_eq_true_eq];omega
 obtain⟨x,hx⟩:∃x,a[k]?=some x:=⟨a[k],List.getElem?_eq_getElem hlt⟩
 have hlt2:k<b.length:=by omega
 obtain⟨y,hy⟩:∃y,b[k]?=some y:=⟨b[k],List.getElem?_eq_getElem hlt2⟩;refine aE hd ?_;refine zY ?_
 (repeat refine ai.seq ?_)
 refine ai.block ?_;have hn:=HO x y;refine zs ?_;refine oW [0,0,3,7,0,0,48,112,255] ?_;cases he:decide (x=y)
 ·rw[he] at hn;refine nL (n6 hlt hlt2 (aH (e:=2) (enc:=bC) (λ_=>rfl) hx) (aH (e:=2) (enc:=bC) (λ_=>rfl) hy) @bC.eq_1 hn) ?_;refine zM ?_;refine cE ?_;refine zE ?_;exact zO [.tmp 4] (hq:=by (try simp only[aC,ab]);first | done | (rw[decide_eq_false (λh=>by subst h;rw[hx] at hy;exact of_decide_eq_false he (Option.some.inj hy))]))
 ·rw[he] at hn;refine nL (n6 hlt hlt2 (aH (e:=2) (enc:=bC) (λ_=>rfl) hx) (aH (e:=2) (enc:=bC) (λ_=>rfl) hy) @bC.eq_1 hn) ?_;refine zM ?_;refine zN ?_;refine aE (zi hlt ha) ?_;refine zX hlt zH (by rw[bo hx,bo hy,hall,of_decide_eq_true he])
def QQ:ku:=⟨[97,120,108,101],[[97,120,108,101]],1⟩
def Gy:List aU:=[⟨[97,120,108,101],false,[]⟩,⟨[99,97,114,116],true,[QQ]⟩]
def NA:bE:=.mk 2 0 []
def pe(p k:List Nat):bB:=⟨1,10,p,k,[],[],[],[],0,0,0,0,0,0⟩
def IB:bB:=⟨2,11,[97],[],[99],[97,120,108,101],[],[],0,0,0,0,0,0⟩
def x7:List bq:=[⟨[pe [97] [97,120,108,101]],false⟩,⟨[pe [99] [99,97,114,116]],false⟩,⟨[IB],false⟩,⟨[nZ 40,nZ 60],false⟩]
abbrev zk:List Sh×Int:=([⟨[70,111,114,103,101],801⟩,⟨[82,97,105,108],200⟩],0)
abbrev zm:List Sh×Int:=([⟨[82,97,105,108],1001⟩],0)
theorem On:mQ [KS] [dI 40] KQ=zk:=by kernel_rfl
theorem Oo:mQ [KS] [dI 60] KQ=zm:=by kernel_rfl
theorem Qh:lg Gy NA [KS] x7 KQ=([⟨[82,97,105,108],200⟩],801,0):=by kernel_rfl
abbrev P9:List Sh:=[⟨[82,97,105,108],200⟩]
theorem nB{s:List Nat}(h:(decide (s.length<=1000000)&&s.all λb=>decide (b<256))=true):iV s:=by
 simp only[Bool.and_eq_true,decide_eq_true_eq,List.all_eq_true] at h;exact⟨h.1,h.2⟩
theorem Ns:jJ Gy:=by
 refine⟨by decide,λk hk=>?_,λk hk s hs=>?_⟩
 ·simp only[Gy,mem_cons,not_mem_nil,or_false] at hk
  rcases hk with rfl | rfl<;>exact⟨nB (by decide),by decide⟩
 ·simp only[Gy,mem_cons,not_mem_nil,or_false] at hk
  rcases hk with rfl | rfl
  ·cases hs
  ·cases List.mem_singleton.1 hs;exact⟨nB (by decide),by decide⟩
theorem NB:gm NA:=.mk (by decide) λk hk=>by cases hk
theorem Mv:∀r∈x7,ea r:=by
 intro r hr;simp only[x7,mem_cons,not_mem_nil,or_false] at hr
 rcases hr with rfl | rfl | rfl | rfl<;>refine⟨by decide,λe he=>?_⟩<;>simp only[mem_cons,not_mem_nil,or_false] at he
 ·subst he;constructor<;>exact nB (by decide)
 ·subst he;constructor<;>exact nB (by decide)
 ·subst he;constructor<;>exact nB (by decide)
 ·rcases he with rfl | rfl<;>constructor<;>exact nB (by decide)
theorem Kq:∀r∈x7,r.opts.length<=400000:=by
 intro r hr;simp only[x7,mem_cons,not_mem_nil,or_false] at hr
 rcases hr with rfl | rfl | rfl | rfl<;>exact(by decide)
theorem uE(a:List Sh)(h:a.length<=1000000):PC Tryz.prog 17 [an 2 a bC,an 2 a bC] (·=aA true):=by
 have:=HW a a h;rw[decide_eq_true rfl] at this;exact this
theorem yQ:∀w∈[KS],w.fits:=by
 intro w hw;cases List.mem_singleton.1 hw;constructor<;>decide
theorem wZ:KQ.fits:=by constructor<;>decide
abbrev w0:Fm:=[(0,aA false),(1,.sl 1 5 (bN KS)),(2,.ip (gU KQ))]
abbrev w1:Fm:=(3,an 2 zk.1 bC)::(4,aa 0)::w0
abbrev w2:Fm:=(5,an 2 zm.1 bC)::(6,aa 0)::w1
abbrev w3:Fm:=(8,.ip (an 3 Gy aq::aI NA))::w2
abbrev w4:Fm:=(11,an 2 x7 aD)::w3
abbrev w5:Fm:=(12,an 2 P9 bC)::(13,aa 801)::(14,aa 0)::w2
abbrev w8:Fm:=(10,.fn 16 [] [])::(9,.fn 15 [] [])::w3
abbrev w9:Fm:=(46,.ag (aD ⟨[(pe [97] [97,120,108,101])],false⟩))::w8
abbrev Q2:Fm:=(50,.ag (aD ⟨[(pe [99] [99,97,114,116])],false⟩))::w9
abbrev Q3:Fm:=(54,.ag (aD ⟨[IB],false⟩))::Q2
abbrev RA:Fm:=(61,.ag (aD ⟨[nZ 40,nZ 60],false⟩))::Q3
theorem HB:PC Tryz.prog 4 [] (·=aA true):=by
 have hs40:=oI [KS] [dI 40] KQ yQ wZ (by decide) (by decide);rw[On] at hs40;have hs60:=oI [KS] [dI 60] KQ yQ wZ (by decide) (by decide);rw[Oo] at hs60;have hsu:=yN Gy NA [KS] x7 KQ Ns NB yQ wZ (by decide) Mv Kq (by decide);rw[Qh] at hsu;have hm40:=uE zk.1 (by decide);have hm60:=uE zm.1 (by decide);have hmR:=uE P9 (by decide);have hv0:∀(i:Nat) (v:SV),vo (λ_=>False) i v=.any:=λi v=>iU λh=>h;have hv8:∀(i:Nat),i<8->∀v:SV,vo (λj=>j<8) i v=v:=λi h v=>cT h;refine pB 105 Tryz.func4 ?_;refine ki ?_;refine zK Fv ?_ (hfl:=.inr (bn.refl rfl));refine cS @bF ?_;refine ai.fg (Fg.freeze (f':=w0) 0 rfl (λh=>by cases h) (p6 (n2 @an.eq_1 @bF))) ?_;refine ai.fg (st':=⟨w0,105,[],[]⟩) zH ?_
 (repeat refine ai.seq ?_)
 refine ai.Bf 8 12 (λL=>⟨(20,vo L 0 (.sl 1 5 (bN KS)))::(21,vo L 1 (.ag [an 14 [dI 40] ae]))::(22,vo L 2 (.ag (gU KQ)))::(23,vo L 3 (cV zk))::(19,vo L 4 (cV zk))::(24,vo L 5 (an 2 zk.1 bC))::(25,vo L 6 (aa zk.2))::(3,vo L 7 (an 2 zk.1 bC))::w0,105,[],[]⟩) rfl (by kernel_rfl) (by rfl) (by decide) (by kernel_rfl) (cI (n4 @cV.eq_1 @bF @aT.eq_1 hv0)) (λL=>rfl) ?_ ?_
 ·rintro L i o him hC hr
  rcases i with _ | _ | _ | _ | _ | _ | _ | _ | i
  rotate_right
  ·exact absurd him (by omega)
  ·cases hr.ik;refine zR ?_;exact(cI (n4 @cV.eq_1 @bF @aT.eq_1 @br))
  ·cases hr.ik;refine zK (Bq 40) ?_ (hfl:=.inr (bn.refl rfl));refine .nil ?_;exact(cI (n4 @cV.eq_1 @bF @aT.eq_1 @br))
  ·cases hr.ik;refine cS @bF ?_;exact(cI (n4 @cV.eq_1 @bF @aT.eq_1 @br))
  ·cases hr.ik;have d0:L 0:=hr.dep ⟨0,.data⟩ (by simp) rfl;have d1:L 1:=hr.dep ⟨1,.data⟩ (by simp) rfl;have d2:L 2:=hr.dep ⟨2,.data⟩ (by simp) rfl;refine zK hs40 ?_ (hc:=Gh (n3 (ft d0) (ft d1) (ft d2))) (hfl:=.inr (bn.refl rfl));refine .nil ?_;exact(cI (n7 @cV.eq_1 @bF @aT.eq_1 @br (ft d0) (ft d1) (ft d2)))
  ·cases hr.ik;have d3:L 3:=hr.dep ⟨3,.data⟩ (by simp) rfl;refine cS (ft d3) ?_;exact(cI (n5 @cV.eq_1 @bF @aT.eq_1 @br (ft d3)))
  ·cases hr.ik;have d4:L 4:=hr.dep ⟨4,.data⟩ (by simp) rfl;refine cS (n2 (ft d4) @cV.eq_1) ?_;exact(cI (n5 @cV.eq_1 @bF @aT.eq_1 @br (ft d4)))
  ·cases hr.ik;have d4:L 4:=hr.dep ⟨4,.data⟩ (by simp) rfl;refine cS (n2 (ft d4) @cV.eq_1) ?_;exact(cI (n5 @cV.eq_1 @bF @aT.eq_1 @br (ft d4)))
  ·cases hr.ik;have d5:L 5:=hr.dep ⟨5,.data⟩ (by simp) rfl;refine cS (ft d5) ?_;exact(cI (n5 @cV.eq_1 @bF @aT.eq_1 @br (ft d5)))
 change aM _ _ _ _ _ _;refine aM.fg (st':=⟨(3,an 2 zk.1 bC)::(25,aa zk.2)::w0,105,[],[]⟩) (cI (n3 @aT.eq_1 (hv8 6 (by decide)) (hv8 7 (by decide)))) ?_;refine zR ?_;refine ai.fg (st':=⟨w1,105,[],[]⟩) zH ?_
 (repeat refine ai.seq ?_)
 refine ai.Bf 8 12 (λL=>⟨(27,vo L 0 (.sl 1 5 (bN KS)))::(28,vo L 1 (.ag [an 14 [dI 60] ae]))::(29,vo L 2 (.ag (gU KQ)))::(30,vo L 3 (cV zm))::(26,vo L 4 (cV zm))::(31,vo L 5 (an 2 zm.1 bC))::(32,vo L 6 (aa zm.2))::(5,vo L 7 (an 2 zm.1 bC))::w1,105,[],[]⟩) rfl (by kernel_rfl) (by rfl) (by decide) (by kernel_rfl) (cI (n4 @cV.eq_1 @bF @aT.eq_1 hv0)) (λL=>rfl) ?_ ?_
 ·rintro L i o him hC hr
  rcases i with _ | _ | _ | _ | _ | _ | _ | _ | i
  rotate_right
  ·exact absurd him (by omega)
  ·cases hr.ik;refine zR ?_;exact(cI (n4 @cV.eq_1 @bF @aT.eq_1 @br))
  ·cases hr.ik;refine zK (Bq 60) ?_ (hfl:=.inr (bn.refl rfl));refine .nil ?_;exact(cI (n4 @cV.eq_1 @bF @aT.eq_1 @br))
  ·cases hr.ik;refine cS @bF ?_;exact(cI (n4 @cV.eq_1 @bF @aT.eq_1 @br))
  ·cases hr.ik;have d0:L 0:=hr.dep ⟨0,.data⟩ (by simp) rfl;have d1:L 1:=hr.dep ⟨1,.data⟩ (by simp) rfl;have d2:L 2:=hr.dep ⟨2,.data⟩ (by simp) rfl;refine zK hs60 ?_ (hc:=Gh (n3 (ft d0) (ft d1) (ft d2))) (hfl:=.inr (bn.refl rfl));refine .nil ?_;exact(cI (n7 @cV.eq_1 @bF @aT.eq_1 @br (ft d0) (ft d1) (ft d2)))
  ·cases hr.ik;have d3:L 3:=hr.dep ⟨3,.data⟩ (by simp) rfl;refine cS (ft d3) ?_;exact(cI (n5 @cV.eq_1 @bF @aT.eq_1 @br (ft d3)))
  ·cases hr.ik;have d4:L 4:=hr.dep ⟨4,.data⟩ (by simp) rfl;refine cS (n2 (ft d4) @cV.eq_1) ?_;exact(cI (n5 @cV.eq_1 @bF @aT.eq_1 @br (ft d4)))
  ·cases hr.ik;have d4:L 4:=hr.dep ⟨4,.data⟩ (by simp) rfl;refine cS (n2 (ft d4) @cV.eq_1) ?_;exact(cI (n5 @cV.eq_1 @bF @aT.eq_1 @br (ft d4)))
  ·cases hr.ik;have d5:L 5:=hr.dep ⟨5,.data⟩ (by simp) rfl;refine cS (ft d5) ?_;exact(cI (n5 @cV.eq_1 @bF @aT.eq_1 @br (ft d5)))
 change aM _ _ _ _ _ _;refine aM.fg (st':=⟨(5,an 2 zm.1 bC)::(32,aa zm.2)::w1,105,[],[]⟩) (cI (n3 @aT.eq_1 (hv8 6 (by decide)) (hv8 7 (by decide)))) ?_;refine zR ?_;refine ai.fg (st':=⟨w2,105,[],[]⟩) zH ?_;refine zV ?_;refine ai.fg (Fg.BV (f':=(7,.buf 1 1 3 (some 1))::w2) (S':=[.gone,.cells [ak [97,120,108,101],.sl 1 1 [ak [97,120,108,101]],aa 1]]) 0 rfl (λh=>by cases h) ⟨.inl rfl,.inl rfl,.inl rfl,.inl rfl,.inl rfl,.inl rfl,.inl rfl,.inl rfl,trivial⟩ ⟨.inl rfl,.inr ⟨by decide,.inr ⟨_,_,rfl,rfl,.cons (.a _) (.cons (.buf rfl (bn.refl rfl) (le_refl _)) (.cons (.a _) .nil))⟩⟩,trivial⟩) ?_;refine ai.fg (Fg.freeze (f':=(7,.sl 1 3 (bH QQ))::w2) 1 rfl (λh=>by cases h) ⟨.inr (.buf rfl (bn.refl rfl) (le_refl _)),.inl rfl,.inl rfl,.inl rfl,.inl rfl,.inl rfl,.inl rfl,.inl rfl,trivial⟩) ?_;refine ai.fg (st':=⟨(7,.sl 1 3 (bH QQ))::w2,105,[],[]⟩) zH ?_;refine zV ?_;refine ai.fg (Fg.BV (f':=(8,.ptr 1 0)::w2) (S':=[.gone,.cells [an 3 Gy aq,aa 2,aa 0,.a (.slice none 0 0 (some 0))]]) 0 rfl (λh=>by cases h) ⟨.inl rfl,.inl rfl,.inl rfl,.inl rfl,.inl rfl,.inl rfl,.inl rfl,.inl rfl,trivial⟩ ⟨.inl rfl,.inr ⟨by decide,.inr ⟨_,_,rfl,rfl,.cons (.buf rfl (.cons (.a _) (.cons (.a _) (.cons (.nil 3) (.cons (.a _) (.cons (.a _) (.cons (.sl _ _ _) .nil)))))) (le_refl _)) (.cons (.a _) (.cons (.a _) (.cons (.a _) .nil)))⟩⟩,trivial⟩) ?_;refine ai.fg (Fg.freeze (f':=w3) 1 rfl (λh=>by cases h) ⟨.inr (.ptr rfl (.cons (.sl _ _ _) (.cons (.a _) (.cons (.a _) (.cons (.nil 3) .nil)))) (Nat.zero_le _)),.inl rfl,.inl rfl,.inl rfl,.inl rfl,.inl rfl,.inl rfl,.inl rfl,trivial⟩) ?_;refine ai.fg (st':=⟨w3,105,[],[]⟩) zH ?_;refine kQ ?_;refine ai.fg (st':=⟨w8,105,[],[]⟩) zH ?_;refine zC ?_;refine aM.fg (Fg.freeze (f':=(43,.fn 16 [] [])::(45,.sl 1 14 ([(pe [97] [97,120,108,101])].flatMap aF))::w8) 0 rfl (λh=>by cases h) ⟨.inl rfl,.inr (.buf rfl (bn.refl rfl) (le_refl _)),.inl rfl,.inl rfl,.inl rfl,.inl rfl,.inl rfl,.inl rfl,.inl rfl,.inl rfl,.inl rfl,.inl rfl,trivial⟩) ?_;refine zK (mS [(pe [97] [97,120,108,101])]) ?_ (hfl:=.inr (bn.refl rfl));refine aM.fg (st':=⟨w9,105,[],[]⟩) zH ?_;refine zQ ?_;refine aM.fg (Fg.freeze (f':=(47,.fn 16 [] [])::(49,.sl 1 14 ([(pe [99] [99,97,114,116])].flatMap aF))::w9) 0 rfl (λh=>by cases h) ⟨.inl rfl,.inr (.buf rfl (bn.refl rfl) (le_refl _)),.inl rfl,.inl rfl,.inl rfl,.inl rfl,.inl rfl,.inl rfl,.inl rfl,.inl rfl,.inl rfl,.inl rfl,.inl rfl,trivial⟩) ?_;refine zK (mS [(pe [99] [99,97,114,116])]) ?_ (hfl:=.inr (bn.refl rfl));refine aM.fg (st':=⟨Q2,105,[],[]⟩) zH ?_;refine zQ ?_;refine aM.fg (Fg.freeze (f':=(51,.fn 16 [] [])::(53,.sl 1 14 ([IB].flatMap aF))::Q2) 0 rfl (λh=>by cases h) ⟨.inl rfl,.inr (.buf rfl (bn.refl rfl) (le_refl _)),.inl rfl,.inl rfl,.inl rfl,.inl rfl,.inl rfl,.inl rfl,.inl rfl,.inl rfl,.inl rfl,.inl rfl,.inl rfl,.inl rfl,trivial⟩) ?_;refine zK (mS [IB]) ?_ (hfl:=.inr (bn.refl rfl));refine aM.fg (st':=⟨Q3,105,[],[]⟩) zH ?_;refine zQ ?_;refine zK (vn 40) ?_;refine zQ ?_;refine zK (vn 60) ?_;refine zQ ?_;refine aM.fg (Fg.freeze (f':=(55,.fn 16 [] [])::(60,.sl 2 14 ([nZ 40,nZ 60].flatMap aF))::Q3) 0 rfl (λh=>by cases h) ⟨.inl rfl,.inr (.buf rfl (bn.refl rfl) (le_refl _)),.inl rfl,.inl rfl,.inl rfl,.inl rfl,.inl rfl,.inl rfl,.inl rfl,.inl rfl,.inl rfl,.inl rfl,.inl rfl,.inl rfl,.inl rfl,trivial⟩) ?_;refine zK (mS [nZ 40,nZ 60]) ?_ (hfl:=.inr (bn.refl rfl));refine aM.fg (st':=⟨RA,105,[],[]⟩) zH ?_;refine cS (n2 @aD.eq_1 @an.eq_1) ?_;refine ai.fg (Fg.freeze (f':=w4) 0 rfl (λh=>by cases h) ⟨.inr (.buf rfl (bn.refl rfl) (le_refl _)),.inl rfl,.inl rfl,.inl rfl,.inl rfl,.inl rfl,.inl rfl,.inl rfl,.inl rfl,trivial⟩) ?_;refine ai.fg (st':=⟨w4,105,[],[]⟩) zH ?_;refine zC ?_;refine zK hsu ?_ (hfl:=.inr (bn.refl rfl));refine cS @Jo.eq_1 ?_;refine ai.fg (st':=⟨w5,105,[],[]⟩) (cI @Jo.eq_1) ?_;refine gl (n2 (show decide ((0:Int)=0)=true from rfl) (show decide ((801:Int)=801)=true from rfl)) ?_;refine zK hm40 ?_;refine PH (n2 (show decide ((0:Int)=0)=true from rfl) (show decide ((801:Int)=801)=true from rfl)) ?_;refine zK hm60 ?_;refine PH (n2 (show decide ((0:Int)=0)=true from rfl) (show decide ((801:Int)=801)=true from rfl)) ?_;refine zK hmR ?_;refine cS (n2 (show decide ((0:Int)=0)=true from rfl) (show decide ((801:Int)=801)=true from rfl)) ?_;refine zE ?_;exact zO [.tmp 0]
end Go.Proofs
